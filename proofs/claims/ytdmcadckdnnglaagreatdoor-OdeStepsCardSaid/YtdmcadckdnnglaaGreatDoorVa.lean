/- The reference's polynomials. The reference's shifted equations, its series. The reference's shifted polynomials are the program's.
-/
import Derived.Test.YtdmcadckdnnglaaGreatDoorOd
import Derived.Test.YtdmcadckdnnglaaGreatDoorPc
set_option linter.unusedVariables false
set_option linter.unusedSimpArgs false
namespace Go.Sy
open Go Go.Proofs Tryz Ord
def Rs:Tr:=.ret [(W 2 0)]
def aj8:Tr:=.need (.lit 4 [[(.u 0 0),(.u 0 1),(.u 0 2),(.u 0 3)]]) (.buildSlice 167 1 #[(0,(tT 3))]) 167 false (aK 144 [(.one (.c (.sr 4 1)))] [none] [4] [167] 167 true Rs)
theorem IZ:aN prog f184 (fun _=>none) [.v (some 4)]=aj8:=by kernel_rfl
def an0:Tr:=eD 0 0 2 0 167 14 15 (dI 6 0 (some 4) 49 16 (aK 104 [(G4 7),(G4 1)] [(some 4)] [17,18] [49,49] 49 true (.need (.lit 4 [[(.u 8 0),(.u 8 1),(.u 8 2),(.u 8 3)]]) (.buildSlice 167 1 #[(0,(tT 19))]) 167 false (.need (.app 4 64 (some 3) none (some 9)) (.call ⟨.builtin .append,#[(tT 13),(tT 20)],#[167,167]⟩) 167 false (aU .add 3 11 1 2 0 3 (.back 0 [lV 11 0, .row 10]))))))
def ah1:Tr:=.loop 0 [lK 0, .nilrow] (cB 0 0 8 167 (bJ .lss 3 7 9 2 0 4 0 4 (.split (.u 5 0) an0 (aK 144 [(.one (.c (.sr 4 3)))] [none] [22] [167] 167 true (.ret [(W 6 0)])))))
theorem TZ:aN prog f186 (fun _=>none) [.v none, .v (some 4)]=ah1:=by kernel_rfl
def Wx:Tr:=eD 1 0 2 0 167 36 37 (dI 14 0 (some 4) 49 38 (aK 48 [(G4 11),(G4 15)] [(some 4)] [35,39] [49,49] 49 true (.need (.lit 4 [[(.u 16 0),(.u 16 1),(.u 16 2),(.u 16 3)]]) (.buildSlice 167 1 #[(0,(tT 42))]) 167 false (.need (.app 4 64 (some 3) none (some 17)) (.call ⟨.builtin .append,#[(tT 41),(tT 43)],#[167,167]⟩) 167 false (aU .add 3 18 1 2 0 3 (.back 0 [lV 19 0, .row 18]))))))
def Mn:Tr:=.need (.app 4 64 (some 3) none (some 14)) (.call ⟨.builtin .append,#[(tT 41),(tT 43)],#[167,167]⟩) 167 false (aU .add 3 18 1 2 0 3 (.back 0 [lV 16 0, .row 15]))
def aa9:Tr:=eD 0 0 2 0 167 26 27 (dI 9 0 (some 4) 49 28 (aK 48 [(G4 6),(G4 10)] [(some 4)] [25,29] [49,49] 49 true (cB 1 0 32 167 (bJ .lss 3 31 33 2 0 12 0 4 (.split (.u 13 0) Wx (.need (.lit 4 [[(.u 11 0),(.u 11 1),(.u 11 2),(.u 11 3)]]) (.buildSlice 167 1 #[(0,(tT 42))]) 167 false Mn))))))
def MT:Tr:=.back 0 [lV 13 0, .row 12]
def UM:Tr:=cB 1 0 32 167 (bJ .lss 3 31 33 2 0 9 0 4 (.split (.u 10 0) (eD 1 0 2 0 167 36 37 (dI 11 0 (some 4) 49 38 (aK 48 [(G4 6),(G4 12)] [(some 4)] [35,39] [49,49] 49 true (.need (.lit 4 [[(.u 13 0),(.u 13 1),(.u 13 2),(.u 13 3)]]) (.buildSlice 167 1 #[(0,(tT 42))]) 167 false Mn)))) (.need (.lit 4 [[(.u 6 0),(.u 6 1),(.u 6 2),(.u 6 3)]]) (.buildSlice 167 1 #[(0,(tT 42))]) 167 false (.need (.app 4 64 (some 3) none (some 11)) (.call ⟨.builtin .append,#[(tT 41),(tT 43)],#[167,167]⟩) 167 false (aU .add 3 18 1 2 0 3 MT)))))
def Xv:Tr:=eD 1 0 2 0 167 36 37 (dI 16 0 (some 4) 49 38 (aK 48 [(G4 13),(G4 17)] [(some 4)] [35,39] [49,49] 49 true (.need (.lit 4 [[(.u 18 0),(.u 18 1),(.u 18 2),(.u 18 3)]]) (.buildSlice 167 1 #[(0,(tT 42))]) 167 false (.need (.app 4 64 (some 3) none (some 19)) (.call ⟨.builtin .append,#[(tT 41),(tT 43)],#[167,167]⟩) 167 false (aU .add 3 18 1 2 0 3 (.back 0 [lV 21 0, .row 20]))))))
def Mx:Tr:=.need (.app 4 64 (some 3) none (some 16)) (.call ⟨.builtin .append,#[(tT 41),(tT 43)],#[167,167]⟩) 167 false (aU .add 3 18 1 2 0 3 (.back 0 [lV 18 0, .row 17]))
def XT:Tr:=eD 0 0 2 0 167 26 27 (dI 11 0 (some 4) 49 28 (aK 48 [(G4 8),(G4 12)] [(some 4)] [25,29] [49,49] 49 true (cB 1 0 32 167 (bJ .lss 3 31 33 2 0 14 0 4 (.split (.u 15 0) Xv (.need (.lit 4 [[(.u 13 0),(.u 13 1),(.u 13 2),(.u 13 3)]]) (.buildSlice 167 1 #[(0,(tT 42))]) 167 false Mx))))))
def Mw:Tr:=.back 0 [lV 15 0, .row 14]
def WB:Tr:=cB 1 0 32 167 (bJ .lss 3 31 33 2 0 11 0 4 (.split (.u 12 0) (eD 1 0 2 0 167 36 37 (dI 13 0 (some 4) 49 38 (aK 48 [(G4 8),(G4 14)] [(some 4)] [35,39] [49,49] 49 true (.need (.lit 4 [[(.u 15 0),(.u 15 1),(.u 15 2),(.u 15 3)]]) (.buildSlice 167 1 #[(0,(tT 42))]) 167 false Mx)))) (.need (.lit 4 [[(.u 8 0),(.u 8 1),(.u 8 2),(.u 8 3)]]) (.buildSlice 167 1 #[(0,(tT 42))]) 167 false (.need (.app 4 64 (some 3) none (some 13)) (.call ⟨.builtin .append,#[(tT 41),(tT 43)],#[167,167]⟩) 167 false (aU .add 3 18 1 2 0 3 Mw)))))
def UN:Tr:=cB 1 0 14 167 (bJ .lss 3 13 15 2 0 6 0 4 (.split (.u 7 0) (.need (.call 50 [(WK 0)] [(some 4)]) (.call ⟨.value (.func 50),#[(.const (I3 0))],#[2]⟩) 49 true (cB 0 0 22 167 (bJ .lss 3 21 23 2 0 9 0 4 (.split (.u 10 0) XT WB)))) (aK 144 [(.one (.c (.sr 4 3)))] [none] [45] [167] 167 true (.ret [(W 8 0)]))))
def ZX:Tr:=cB 0 0 9 167 (bJ .lss 3 8 10 2 0 4 0 4 (.split (.u 5 0) (.need (.call 50 [(WK 0)] [(some 4)]) (.call ⟨.value (.func 50),#[(.const (I3 0))],#[2]⟩) 49 true (cB 0 0 22 167 (bJ .lss 3 21 23 2 0 7 0 4 (.split (.u 8 0) aa9 UM)))) UN))
def av6:Tr:=.loop 0 [lK 0, .nilrow] ZX
theorem ak4:aN prog f185 (fun _=>none) [.v none, .v none]=av6:=by kernel_rfl
def ar5:Tr:=eD 1 0 3 0 167 17 18 (dI 7 0 (some 4) 49 19 (aK 186 [(W 0 0),(G4 8)] [none] [16,20] [167,49] 167 false (.need (.app 4 64 (some 6) (some (.u 9 0)) none) (.call ⟨.builtin .append,#[(tT 15),(tT 21)],#[167,167]⟩) 167 false (aK 185 [(W 2 0),(.one (.c (.sr 4 10)))] [none] [13,22] [167,167] 167 true (aU .add 3 11 1 3 0 3 (.back 0 [lV 11 0,lV 12 0]))))))
def aA4:Tr:=.loop 0 [lN,lK 0] (cB 1 0 8 167 (bJ .lss 3 7 9 3 0 4 0 4 (.split (.u 5 0) (.need (.make [(.int .i64 0),(.slice none 0 0),(.int .i64 0),(.slice none 0 0)] 64 (.u 3 0) (.u 3 0)) (.makeSlice 167 (tT 14) (tT 14)) 167 false ar5) Rs)))
theorem af1:aN prog f187 (fun _=>none) [.v none, .v none]=aA4:=by kernel_rfl
def ay6:Tr:=eD 0 0 6 0 167 18 19 (dI 9 0 (some 4) 49 20 (aK 186 [(W 5 0),(G4 10)] [none] [17,21] [167,49] 167 true (aK 185 [(W 4 0),(W 11 0)] [none] [16,22] [167,167] 167 true (aK 187 [(W 5 0),(W 1 0)] [none] [24,25] [167,167] 167 true (aU .add 3 14 1 6 0 3 (.back 0 [lV 12 0,lV 13 0,lV 14 0]))))))
def ar3:Tr:=.need (.call 50 [(WK 1)] [(some 4)]) (.call ⟨.value (.func 50),#[(.const (I3 1))],#[2]⟩) 49 true (aK 184 [(G4 2)] [none] [8] [49] 167 true (.loop 0 [lN,lV 3 0,lK 0] (cB 0 0 11 167 (bJ .lss 3 10 12 6 0 7 0 4 (.split (.u 8 0) ay6 (.ret [(W 4 0)]))))))
theorem Kk:aN prog f106 (fun _=>none) [.v none, .v none]=ar3:=by kernel_rfl
def al4:Tr:=bJ .lss 3 8 9 3 0 1 0 4 (.split (.u 8 0) (bJ .sub 3 14 15 0 0 3 0 3 (aK 50 [(W 9 0)] [(some 4)] [16] [2] 49 true (aK 104 [(.agg [(U 4 0),(U 5 0),(U 6 0),(U 7 0)]),(G4 10)] [(some 4)] [13,17] [49,49] 49 true (aU .add 3 11 1 3 0 3 (.back 0 [lV 12 0,lV 11 0,lV 11 1,lV 11 2,lV 11 3]))))) (.ret [(.agg [(U 4 0),(U 5 0),(U 6 0),(U 7 0)])]))
def ao5:Tr:=.need (.call 50 [(WK 1)] [(some 4)]) (.call ⟨.value (.func 50),#[(.const (I3 1))],#[2]⟩) 49 true (.loop 0 [lK 0,lV 2 0,lV 2 1,lV 2 2,lV 2 3] al4)
theorem JW:aN prog f103 (fun _=>none) [.v none, .v none]=ao5:=by kernel_rfl
def eK (p:List RQ) (c:Rat):List RQ:=p.map fun a=>.of (a.q*c)
theorem eX (p:List RQ) (c:Rat):(eK p c).length=p.length:=List.length_map _
theorem HL (a:RQ):aM prog 184 [(dE a:aF)] (.ret [.one (sR (dV [a]))]):=by
 refine aD (args:=[.v (some 4)]) (ins:=[.v (dE a)]) (hints:=(fun _=>none)) fo (by kernel_rfl) func184 ⟨rfl,trivial⟩ ?_;rw [IZ];dsimp only [List.map,In.env,aB,aA];refine cL (us:=rR [a]) rfl ?_;dsimp only [aB,aA];refine aC (wP [a] (by simp)) rfl ?_;exact aL rfl
theorem Il (p:List RQ) (c:RQ) (A B:Nat) (hp:∀ x∈p,Fit A x.q) (hc:Fit B c.q) (hB:A+B≤4294967296) (hs:p.length<1099511627776):aM prog 186 [(.one (sR p):aF),(dE c:aF)] (.ret [.one (sR (dV (eK p c.q)))]):=by
 refine aD (args:=[.v none, .v (some 4)]) (ins:=[.v (.one (sR p)), .v (dE c)]) (hints:=(fun _=>none)) fo (by kernel_rfl) func186 ⟨rfl,rfl,trivial⟩ ?_;rw [TZ];dsimp only [List.map,In.env,aB,aA];refine bC {i:Nat // i≤p.length} (fun g=>[.one (.int .i64 g.1), .rows (rR (eK (p.take g.1) c.q))]) (fun g=>p.length-g.1) ⟨0,Nat.zero_le _⟩ aO.rfl (fun _=>rfl) ?_;rintro ⟨i,hi⟩;dsimp only [aB,aA] at hi ⊢;refine vn (aP dX (List.length_map _)) rfl ?_;dsimp only [aB,aA];refine vn bB rfl ?_;dsimp only [aB,aA];refine vs _ rfl (fun h3=>?_) (fun h3=>?_)
 ·obtain ⟨x,hx⟩:∃ x,p[i]? = some x:=⟨_,List.getElem?_eq_getElem (by omega)⟩
  refine vn (aW dX (by omega) (by omega) hx) rfl ?_;dsimp only [aB,aA];refine vn (bO qG (by decide) (by simp) (.inl rfl)) rfl ?_;dsimp only [aB,aA];refine aC (eW x c A B (hp x (List.mem_of_getElem? hx)) hc hB) rfl ?_;dsimp only [aB,aA];refine cL (us:=rR [.of (x.q*c.q)]) rfl ?_;dsimp only [aB,aA];refine jQ (xs:=eK (p.take i) c.q) (x:=.of (x.q*c.q)) (f:=rC) rfl rfl (by rw [eX,List.length_take];omega) (by rw [eX,List.length_take];simp only [maxLen];omega) ?_;rw [show eK (p.take i) c.q ++ [.of (x.q*c.q)]=eK (p.take (i+1)) c.q from pT (f:=fun a:RQ=>RQ.of (a.q*c.q)) hx];dsimp only [aB,aA];refine vn (aE (by omega) (by omega)) rfl ?_;dsimp only [aB,aA];exact aR rfl ⟨⟨i+1,by omega⟩,aO.rfl,by show p.length-(i+1)<p.length-i;omega⟩
 rw [show i=p.length by omega,List.take_length];refine aC (wP (eK p c.q) (by rw [eX];exact hs)) rfl ?_;exact aL rfl
def atR (p:List RQ) (i:Nat):Rat:=((p.map RQ.q).getD i 0)
theorem kJ {p:List RQ} {i:Nat} {x:RQ} (h:p[i]? = some x):atR p i=x.q:=by
 rw [atR,List.getD_eq_getElem?_getD,List.getElem?_map,h];rfl
theorem Hk {p:List RQ} {i:Nat} (h:p.length≤i):atR p i=0:=by
 rw [atR,List.getD_eq_getElem?_getD,List.getElem?_eq_none (by simpa using h)];rfl
def yZ (a b:List RQ) (i:Nat):List RQ:=(List.range i).map fun k=>.of (atR a k+atR b k)
theorem sV (a b:List RQ) (i:Nat):(yZ a b i).length=i:=by simp [yZ]
theorem zD (a b:List RQ) (i:Nat):yZ a b i ++ [.of (atR a i+atR b i)]=yZ a b (i+1):=by simp [yZ,List.range_succ]
theorem SE (a b:List RQ) (A B:Nat) (ha:∀ x∈a,Fit A x.q) (hb:∀ x∈b,Fit B x.q) (hB:2*A+2*B≤1073741824) (h64:64≤A) (h64':64≤B) (hs:a.length<1099511627776) (hs2:b.length<1099511627776):aM prog 185 [(.one (sR a):aF),(.one (sR b):aF)] (.ret [.one (sR (dV (yZ a b (max a.length b.length))))]):=by
 refine aD (args:=[.v none, .v none]) (ins:=[.v (.one (sR a)), .v (.one (sR b))]) (hints:=(fun _=>none)) fo (by kernel_rfl) func185 ⟨rfl,rfl,trivial⟩ ?_;rw [ak4];dsimp only [List.map,In.env,aB,aA];have h0:Fit 64 (RQ.of ((0:Int):Rat)).q:=Fit.zero (by omega);refine bC {i:Nat // i≤max a.length b.length} (fun g=>[.one (.int .i64 g.1), .rows (rR (yZ a b g.1))]) (fun g=>max a.length b.length-g.1) ⟨0,Nat.zero_le _⟩ aO.rfl (fun _=>rfl) ?_;rintro ⟨i,hi⟩;dsimp only [aB,aA] at hi ⊢;have hsl:=sV a b i;refine vn (aP dX (List.length_map _)) rfl ?_;dsimp only [aB,aA];refine vn bB rfl ?_;dsimp only [aB,aA];refine vs _ rfl (fun h3=>?_) (fun h3=>?_)
 ·refine aC (iL 0 (by omega) (by omega)) rfl ?_;dsimp only [aB,aA];refine vn (aP dX (List.length_map _)) rfl ?_;dsimp only [aB,aA];refine vn bB rfl ?_;dsimp only [aB,aA];refine vs _ rfl (fun h7=>?_) (fun h7=>?_)
  ·obtain ⟨x,hx⟩:∃ x,a[i]? = some x:=⟨_,List.getElem?_eq_getElem (by omega)⟩
   have hxA:=ha x (List.mem_of_getElem? hx);refine vn (aW dX (by omega) (by omega) hx) rfl ?_;dsimp only [aB,aA];refine vn (bO qG (by decide) (by simp) (.inl rfl)) rfl ?_;dsimp only [aB,aA];refine aC (jU (.of ((0:Int):Rat)) x 64 A h0 hxA (by omega)) rfl ?_;dsimp only [aB,aA];refine vn (aP dX (List.length_map _)) rfl ?_;dsimp only [aB,aA];refine vn bB rfl ?_;dsimp only [aB,aA];refine vs _ rfl (fun h13=>?_) (fun h13=>?_)
   ·obtain ⟨y,hy⟩:∃ y,b[i]? = some y:=⟨_,List.getElem?_eq_getElem (by omega)⟩
    refine vn (aW dX (by omega) (by omega) hy) rfl ?_;dsimp only [aB,aA];refine vn (bO qG (by decide) (by simp) (.inl rfl)) rfl ?_;dsimp only [aB,aA];refine aC (jU (.of ((RQ.of ((0:Int):Rat)).q+x.q)) y (64+A+1) B (h0.add hxA) (hb y (List.mem_of_getElem? hy)) (by omega)) rfl ?_;rw [show (RQ.of ((RQ.of ((0:Int):Rat)).q+x.q)).q+y.q=atR a i+atR b i by rw [kJ hx,kJ hy];show ((0:Int):Rat)+x.q+y.q=_;grind];dsimp only [aB,aA];refine cL (us:=rR [.of (atR a i+atR b i)]) rfl ?_;dsimp only [aB,aA];refine jQ (xs:=yZ a b i) (x:=.of (atR a i+atR b i)) (f:=rC) rfl rfl (by omega) (by simp only [maxLen];omega) ?_;rw [zD];dsimp only [aB,aA];refine vn (aE (by omega) (by omega)) rfl ?_;dsimp only [aB,aA];exact aR rfl ⟨⟨i+1,by omega⟩,aO.rfl,by show max a.length b.length-(i+1)<max a.length b.length-i;omega⟩
   rw [show (RQ.of ((0:Int):Rat)).q+x.q=atR a i+atR b i by rw [kJ hx,Hk (p:=b) (by omega)];show ((0:Int):Rat)+x.q=_;grind];refine cL (us:=rR [.of (atR a i+atR b i)]) rfl ?_;dsimp only [aB,aA];refine jQ (xs:=yZ a b i) (x:=.of (atR a i+atR b i)) (f:=rC) rfl rfl (by omega) (by simp only [maxLen];omega) ?_;rw [zD];dsimp only [aB,aA];refine vn (aE (by omega) (by omega)) rfl ?_;dsimp only [aB,aA];exact aR rfl ⟨⟨i+1,by omega⟩,aO.rfl,by show max a.length b.length-(i+1)<max a.length b.length-i;omega⟩
  exfalso;omega
 refine vn (aP dX (List.length_map _)) rfl ?_;dsimp only [aB,aA];refine vn bB rfl ?_;dsimp only [aB,aA];refine vs _ rfl (fun h41=>?_) (fun h41=>?_)
 ·refine aC (iL 0 (by omega) (by omega)) rfl ?_;dsimp only [aB,aA];refine vn (aP dX (List.length_map _)) rfl ?_;dsimp only [aB,aA];refine vn bB rfl ?_;dsimp only [aB,aA];refine vs _ rfl (fun h45=>?_) (fun h45=>?_)
  ·exfalso;omega
  refine vn (aP dX (List.length_map _)) rfl ?_;dsimp only [aB,aA];refine vn bB rfl ?_;dsimp only [aB,aA];refine vs _ rfl (fun h65=>?_) (fun h65=>?_)
  ·obtain ⟨y,hy⟩:∃ y,b[i]? = some y:=⟨_,List.getElem?_eq_getElem (by omega)⟩
   refine vn (aW dX (by omega) (by omega) hy) rfl ?_;dsimp only [aB,aA];refine vn (bO qG (by decide) (by simp) (.inl rfl)) rfl ?_;dsimp only [aB,aA];refine aC (jU (.of ((0:Int):Rat)) y 64 B h0 (hb y (List.mem_of_getElem? hy)) (by omega)) rfl ?_;rw [show (RQ.of ((0:Int):Rat)).q+y.q=atR a i+atR b i by rw [kJ hy,Hk (p:=a) (by omega)];show ((0:Int):Rat)+y.q=_;grind];dsimp only [aB,aA];refine cL (us:=rR [.of (atR a i+atR b i)]) rfl ?_;dsimp only [aB,aA];refine jQ (xs:=yZ a b i) (x:=.of (atR a i+atR b i)) (f:=rC) rfl rfl (by omega) (by simp only [maxLen];omega) ?_;rw [zD];dsimp only [aB,aA];refine vn (aE (by omega) (by omega)) rfl ?_;dsimp only [aB,aA];exact aR rfl ⟨⟨i+1,by omega⟩,aO.rfl,by show max a.length b.length-(i+1)<max a.length b.length-i;omega⟩
  exfalso;omega
 rw [show i=max a.length b.length by omega];refine aC (wP (yZ a b (max a.length b.length)) (by rw [sV];omega)) rfl ?_;exact aL rfl
def Ki (a b:List RQ):List RQ:=dV (yZ a b (max a.length b.length))
theorem pM (p:List RQ):(dV p).length≤p.length:=by rw [wU];exact gL p
theorem MS (a b:List RQ):(Ki a b).length≤max a.length b.length:=Nat.le_trans (pM _) (by rw [sV];exact Nat.le_refl _)
def mulR (a b:List RQ):Nat→List RQ
 | 0=>[]
 | i+1=>Ki (mulR a b i) (List.replicate i .nil++dV (eK a (atR b i)))
theorem GI (a b:List RQ):∀ i,(mulR a b i).length≤a.length+i
 | 0=>Nat.zero_le _
 | i+1=>by
   rw [mulR];refine Nat.le_trans (MS _ _) ?_;have h1:=GI a b i;have h2:=pM (eK a (atR b i));rw [eX] at h2;rw [List.length_append,List.length_replicate];omega
theorem ac2 (n:Nat) (us:List RQ):aY (aY aH.Sub) (List.replicate n z4++rR us) (rR (List.replicate n .nil++us)):=by
 rw [show rR (List.replicate n RQ.nil++us)=List.replicate n (rC .nil)++rR us by rw [rR,List.map_append,List.map_replicate]];exact aY.append (qF jL n) (aY.mF (aY.mF aH.Sub.refl) _)
set_option maxHeartbeats 1000000 in
theorem ar4 (a b:List RQ) (A B F:Nat) (ha:∀ x∈a,Fit A x.q) (hb:∀ x∈b,Fit B x.q) (hF:∀ i,i≤b.length→∀ x∈mulR a b i,Fit F x.q) (hB:2*F+2*(A+B)≤1073741824) (h64:64≤A) (h64':64≤F) (hs:a.length≤1073741824) (hs2:b.length≤1073741824):aM prog 187 [(.one (sR a):aF),(.one (sR b):aF)] (.ret [.one (sR (mulR a b b.length))]):=by
 refine aD (args:=[.v none, .v none]) (ins:=[.v (.one (sR a)), .v (.one (sR b))]) (hints:=(fun _=>none)) fo (by kernel_rfl) func187 ⟨rfl,rfl,trivial⟩ ?_;rw [af1];dsimp only [List.map,In.env,aB,aA];refine bC {i:Nat // i≤b.length} (fun g=>[.one (sR (mulR a b g.1)), .one (.int .i64 g.1)]) (fun g=>b.length-g.1) ⟨0,Nat.zero_le _⟩ ⟨aH.Sub.nil,aF.Sub.same,trivial⟩ (fun _=>rfl) ?_;rintro ⟨i,hi⟩;dsimp only [aB,aA] at hi ⊢;refine vn (aP dX (List.length_map _)) rfl ?_;dsimp only [aB,aA];refine vn bB rfl ?_;dsimp only [aB,aA];refine vs _ rfl (fun h3=>?_) (fun h3=>?_)
 ·obtain ⟨x,hx⟩:∃ x,b[i]? = some x:=⟨_,List.getElem?_eq_getElem (by omega)⟩
  have hat:=kJ hx;have hml:=GI a b i;have htl:=pM (eK a x.q);rw [eX] at htl;have hlen:(List.replicate i z4++rR (dV (eK a x.q))).length=i+(dV (eK a x.q)).length:=by rw [List.length_append,List.length_replicate,List.length_map]
  refine rK (n:=i) (m:=i) (us:=List.replicate i z4) rfl rfl rfl (Nat.le_refl _) (by omega) (by simp only [maxLen];omega) ?_;dsimp only [aB,aA];refine vn (aW dX (by omega) (by omega) hx) rfl ?_;dsimp only [aB,aA];refine vn (bO qG (by decide) (by simp) (.inl rfl)) rfl ?_;dsimp only [aB,aA];refine aC (Il a x A B ha (hb x (List.mem_of_getElem? hx)) (by omega) (by omega)) rfl ?_;dsimp only [aB,aA];refine uE (ts:=List.replicate i z4) (us:=rR (dV (eK a x.q))) (vs:=List.replicate i z4++rR (dV (eK a x.q))) rfl (.inr aH.Sub.same) rfl (by rw [hlen];omega) (by rw [hlen];simp only [maxLen];omega) ?_;dsimp only [aB,aA];refine GB (show aO _ [.one (sR (mulR a b i)), .one (sR (List.replicate i .nil++dV (eK a x.q)))] from ⟨aF.Sub.same,aH.Sub.slice (ac2 i _),trivial⟩) (SE _ _ F (A+B) (hF i hi) (fun y hy=>?_) (by omega) (by omega) (by omega) (by omega) (by rw [List.length_append,List.length_replicate];omega)) rfl ?_
  ·rcases List.mem_append.1 hy with h | h
   ·rw [(List.mem_replicate.1 h).2];exact Fit.zero (by omega)
   ·obtain ⟨u,hu,rfl⟩:=List.mem_map.1 (List.mem_of_mem_take h);exact (ha u hu).mul (hb x (List.mem_of_getElem? hx))
  dsimp only [aB,aA];refine vn (aE (by omega) (by omega)) rfl ?_;dsimp only [aB,aA];exact aR rfl ⟨⟨i+1,by omega⟩,aO.of_eq (by dsimp only;rw [mulR,hat];rfl),by show b.length-(i+1)<b.length-i;omega⟩
 rw [show b.length=i by omega];exact aL rfl
def oZ (q:List RQ):Nat→List RQ
 | 0=>dV [.of ((1:Int):Rat)]
 | i+1=>mulR (oZ q i) q q.length
theorem GQ (q:List RQ):∀ i,(oZ q i).length≤1+i*q.length
 | 0=>by rw [oZ,Nat.zero_mul];exact pM _
 | i+1=>by
   have h1:=GI (oZ q i) q q.length;have h2:=GQ q i;rw [oZ,Nat.add_mul];omega
def gW (p q:List RQ):Nat→List RQ
 | 0=>[]
 | i+1=>Ki (gW p q i) (dV (eK (oZ q i) (atR p i)))
theorem yB (p q:List RQ):∀ i,(gW p q i).length≤1+i*q.length
 | 0=>Nat.zero_le _
 | i+1=>by
   have h1:=yB p q i;have h2:=GQ q i;have h3:=pM (eK (oZ q i) (atR p i));rw [eX] at h3;rw [gW,Nat.add_mul];refine Nat.le_trans (MS _ _) ?_;omega
structure It (F:Nat) (p q:List RQ):Prop where
 fp:∀ x∈p,Fit F x.q
 fq:∀ x∈q,Fit F x.q
 fw:∀ i,i≤p.length→∀ x∈oZ q i,Fit F x.q
 fm:∀ i,i≤p.length→∀ j,j≤q.length→∀ x∈mulR (oZ q i) q j,Fit F x.q
 fc:∀ i,i≤p.length→∀ x∈gW p q i,Fit F x.q
set_option maxHeartbeats 1000000 in
theorem JK (p q:List RQ) (F:Nat) (C:It F p q) (hF:F≤100000000) (h64:64≤F) (hl:1+(p.length+1)*q.length≤1073741824) (hs:p.length≤1073741824):aM prog 106 [(.one (sR p):aF),(.one (sR q):aF)] (.ret [.one (sR (gW p q p.length))]):=by
 refine aD (args:=[.v none, .v none]) (ins:=[.v (.one (sR p)), .v (.one (sR q))]) (hints:=(fun _=>none)) fo (by kernel_rfl) func106 ⟨rfl,rfl,trivial⟩ ?_;rw [Kk];dsimp only [List.map,In.env,aB,aA];have hql:q.length≤1073741824:=by rw [Nat.add_mul] at hl;omega
 refine aC (iL 1 (by omega) (by omega)) rfl ?_;dsimp only [aB,aA];refine aC (HL (.of ((1:Int):Rat))) rfl ?_;dsimp only [aB,aA];refine bC {i:Nat // i≤p.length} (fun g=>[.one (sR (gW p q g.1)), .one (sR (oZ q g.1)), .one (.int .i64 g.1)]) (fun g=>p.length-g.1) ⟨0,Nat.zero_le _⟩ ⟨aH.Sub.nil,aF.Sub.same,aF.Sub.same,trivial⟩ (fun _=>rfl) ?_;rintro ⟨i,hi⟩;dsimp only [aB,aA] at hi ⊢;refine vn (aP dX (List.length_map _)) rfl ?_;dsimp only [aB,aA];refine vn bB rfl ?_;dsimp only [aB,aA];refine vs _ rfl (fun h5=>?_) (fun h5=>?_)
 ·obtain ⟨x,hx⟩:∃ x,p[i]? = some x:=⟨_,List.getElem?_eq_getElem (by omega)⟩
  have hat:=kJ hx;have hxF:=C.fp x (List.mem_of_getElem? hx);have hw:=GQ q i;have hcl:=yB p q i;have hil:i*q.length≤(p.length+1)*q.length:=Nat.mul_le_mul_right _ (by omega);have htl:=pM (eK (oZ q i) x.q);rw [eX] at htl;refine vn (aW dX (by omega) (by omega) hx) rfl ?_;dsimp only [aB,aA];refine vn (bO qG (by decide) (by simp) (.inl rfl)) rfl ?_;dsimp only [aB,aA];refine aC (Il (oZ q i) x F F (C.fw i hi) hxF (by omega) (by omega)) rfl ?_;dsimp only [aB,aA]
  refine aC (SE (gW p q i) (dV (eK (oZ q i) x.q)) F (F+F) (C.fc i hi) (fun y hy=>by
   obtain ⟨u,hu,rfl⟩:=List.mem_map.1 (List.mem_of_mem_take hy);exact (C.fw i hi u hu).mul hxF) (by omega) (by omega) (by omega) (by omega) (by omega)) rfl ?_
  dsimp only [aB,aA];refine aC (ar4 (oZ q i) q F F F (C.fw i hi) C.fq (C.fm i hi) (by omega) (by omega) (by omega) (by omega) hql) rfl ?_;dsimp only [aB,aA];refine vn (aE (by omega) (by omega)) rfl ?_;dsimp only [aB,aA];exact aR rfl ⟨⟨i+1,by omega⟩,aO.of_eq (by dsimp only;rw [gW,oZ,hat];rfl),by show p.length-(i+1)<p.length-i;omega⟩
 rw [show p.length=i by omega];exact aL rfl
theorem mA (z:Int) (i B:Nat) (hz1:-4611686018427387904≤z) (hz2:z<4611686018427387904) (hi:i<4611686018427387904) (hB:B≤1073741824) (h64:64≤B) (hf:∀ j,j≤i→Fit B ((bG z j:Int):Rat)):aM prog 103 [(.one (.int .i64 z):aF),(.one (.int .i64 i):aF)] (.ret [dE (.of ((bG z i:Int):Rat))]):=by
 refine aD (args:=[.v none, .v none]) (ins:=[.v (.one (.int .i64 z)), .v (.one (.int .i64 i))]) (hints:=(fun _=>none)) fo (by kernel_rfl) func103 ⟨rfl,rfl,trivial⟩ ?_;rw [JW];dsimp only [List.map,In.env,aB,aA];refine aC (iL 1 (by omega) (by omega)) rfl ?_;dsimp only [aB,aA];refine bC {j:Nat // j≤i} (fun g=>(.one (.int .i64 g.1):aF)::(rC (.of ((bG z g.1:Int):Rat))).map aF.one) (fun g=>i-g.1) ⟨0,Nat.zero_le _⟩ aO.rfl (fun _=>rfl) ?_;rintro ⟨j,hj⟩;dsimp only [aB,aA,List.map] at hj ⊢;refine vn bB rfl ?_;dsimp only [aB,aA];refine vs _ rfl (fun h3=>?_) (fun h3=>?_)
 ·refine vn (aG (by omega) (by omega)) rfl ?_;dsimp only [aB,aA];refine aC (iL (z-j) (by omega) (by omega)) rfl ?_;dsimp only [aB,aA];refine aC (eW (.of ((bG z j:Int):Rat)) (.of ((z-j:Int):Rat)) B 64 (hf j hj) (eA (by omega) (by omega)) (by omega)) rfl ?_;rw [show (RQ.of ((bG z j:Int):Rat)).q*(RQ.of ((z-(j:Int):Int):Rat)).q=((bG z (j+1):Int):Rat) by rw [bG,Rat.intCast_mul];rfl];dsimp only [aB,aA];refine vn (aE (by omega) (by omega)) rfl ?_;dsimp only [aB,aA];exact aR rfl ⟨⟨j+1,by omega⟩,aO.rfl,by show i-(j+1)<i-j;omega⟩
 rw [show i=j by omega];exact aL rfl
open Go Go.Proofs Tryz Ord
def as2:Tr:=dI 6 0 none 167 16 (.need (.call 50 [(WK 1)] [(some 4)]) (.call ⟨.value (.func 50),#[(.const (I3 1))],#[2]⟩) 49 false (.need (.lit 4 [[(.u 1 0),(.u 1 1),(.u 1 2),(.u 1 3)],[(.u 8 0),(.u 8 1),(.u 8 2),(.u 8 3)]]) (.buildSlice 167 2 #[(0,(tT 18)),(1,(tT 19))]) 167 false (aK 106 [(W 7 0),(.one (.c (.sr 4 9)))] [none] [17,20] [167,167] 167 true (.need (.lit 1 [[(.u 10 0)]]) (.buildSlice 44 1 #[(0,(tT 21))]) 44 false (.need (.app 1 24 (some 3) none (some 11)) (.call ⟨.builtin .append,#[(tT 13),(tT 22)],#[44,44]⟩) 44 false (aU .add 3 11 1 2 0 3 MT))))))
def an6:Tr:=.loop 0 [lK 0, .nilrow] (cB 0 0 8 44 (bJ .lss 3 7 9 2 0 4 0 4 (.split (.u 5 0) (eD 0 0 2 0 44 14 15 as2) (.ret [(.one (.c (.sr 1 3)))]))))
theorem Ul:aN prog f125 (fun _=>none) [.v none, .v (some 4)]=an6:=by kernel_rfl
def at4:Tr:=eD 1 0 5 0 50 29 30 (dI 9 0 (some 4) 49 31 (aK 103 [(W 5 0),(W 5 0)] [(some 4)] [33,34] [3,3] 49 false (aK 102 [(G4 10),(G4 11)] [(some 4)] [32,35] [49,49] 49 true (.need (.lit 4 [[(.u 12 0),(.u 12 1),(.u 12 2),(.u 12 3)]]) (.buildSlice 50 1 #[(0,(tT 36))]) 50 false (.need (.app 4 64 (some 6) none (some 13)) (.call ⟨.builtin .append,#[(tT 28),(tT 37)],#[50,50]⟩) 50 false (aU .add 3 26 1 5 0 3 Mw))))))
def WQ:Tr:=.need (.idx 10 (.u 38 0)) (.indexAddr 50 (tT 86) (tT 89)) 0 false (.need (.ldrow 10 (.u 38 0) 0 4 true) (.load 49 (tT 90)) 49 false (aK 104 [(G4 37),(G4 39)] [(some 4)] [85,91] [49,49] 49 false (aK 104 [(G4 35),(G4 40)] [(some 4)] [80,92] [49,49] 49 true (aK 48 [(.agg [(U 19 0),(U 20 0),(U 21 0),(U 22 0)]),(G4 41)] [(some 4)] [73,93] [49,49] 49 true (aU .add 3 64 1 18 0 3 (.back 2 [lV 43 0,lV 42 0,lV 42 1,lV 42 2,lV 42 3]))))))
def WN:Tr:=eD 0 0 12 0 44 74 75 (dI 32 0 none 167 76 (eD 33 0 18 0 167 77 78 (dI 34 0 (some 4) 49 79 (bJ .sub 3 81 82 9 0 30 0 3 (aK 103 [(W 36 0),(W 12 0)] [(some 4)] [83,84] [3,3] 49 false (bJ .sub 3 87 88 9 0 30 0 3 WQ))))))
def WY:Tr:=.split (.u 28 0) (bJ .add 3 66 67 4 0 18 0 3 (bJ .sub 3 68 69 29 0 12 0 3 (aU .gtr 3 71 0 30 0 4 (.split (.u 31 0) WN (aU .add 3 64 1 18 0 3 (.back 2 [lV 32 0,lV 19 0,lV 20 0,lV 21 0,lV 22 0])))))) (aU .add 3 48 1 12 0 3 (.back 1 [lV 29 0,lV 19 0,lV 20 0,lV 21 0,lV 22 0]))
def Vi:Tr:=bJ .sub 3 51 52 9 0 4 0 3 (bJ .leq 3 50 53 18 0 23 0 4 (.split (.u 24 0) (eD 0 0 12 0 44 57 58 (dI 25 0 none 167 59 (cB 26 0 60 167 (bJ .lss 3 56 61 18 0 27 0 4 WY)))) (aU .add 3 48 1 12 0 3 (.back 1 [lV 25 0,lV 19 0,lV 20 0,lV 21 0,lV 22 0]))))
def Vy:Tr:=aK 104 [(G4 21),(G4 22)] [(some 4)] [102,105] [49,49] 49 false (aK 102 [(.agg [(U 13 0),(U 14 0),(U 15 0),(U 16 0)]),(G4 23)] [(some 4)] [96,106] [49,49] 49 false (aK 105 [(G4 24)] [(some 4)] [107] [49] 49 true (.need (.lit 4 [[(.u 25 0),(.u 25 1),(.u 25 2),(.u 25 3)]]) (.buildSlice 50 1 #[(0,(tT 108))]) 50 false (.need (.app 4 64 (some 10) none (some 26)) (.call ⟨.builtin .append,#[(tT 95),(tT 109)],#[50,50]⟩) 50 false (aU .add 3 43 1 9 0 3 (.back 0 [lV 28 0, .row 27]))))))
def UO:Tr:=bJ .leq 3 45 46 12 0 4 0 4 (.split (.u 17 0) (.loop 2 [lK 0,lV 13 0,lV 14 0,lV 15 0,lV 16 0] Vi) (eD 0 0 4 0 44 97 98 (dI 18 0 none 167 99 (.need (.prim [(W 19 0),(WK 0)] none) (.indexAddr 167 (tT 100) (.const (I3 0))) 0 false (dI 20 0 (some 4) 49 101 (aK 103 [(W 9 0),(W 4 0)] [(some 4)] [103,104] [3,3] 49 false Vy))))))
def Vs:Tr:=.need (.idx 9 (.u 37 0)) (.indexAddr 50 (tT 86) (tT 89)) 0 false (.need (.ldrow 9 (.u 37 0) 0 4 true) (.load 49 (tT 90)) 49 false (aK 104 [(G4 36),(G4 38)] [(some 4)] [85,91] [49,49] 49 false (aK 104 [(G4 34),(G4 39)] [(some 4)] [80,92] [49,49] 49 true (aK 48 [(.agg [(U 18 0),(U 19 0),(U 20 0),(U 21 0)]),(G4 40)] [(some 4)] [73,93] [49,49] 49 true (aU .add 3 64 1 17 0 3 (.back 2 [lV 42 0,lV 41 0,lV 41 1,lV 41 2,lV 41 3]))))))
def Xr:Tr:=eD 0 0 11 0 44 74 75 (dI 31 0 none 167 76 (eD 32 0 17 0 167 77 78 (dI 33 0 (some 4) 49 79 (bJ .sub 3 81 82 8 0 29 0 3 (aK 103 [(W 35 0),(W 11 0)] [(some 4)] [83,84] [3,3] 49 false (bJ .sub 3 87 88 8 0 29 0 3 Vs))))))
def XA:Tr:=.split (.u 27 0) (bJ .add 3 66 67 4 0 17 0 3 (bJ .sub 3 68 69 28 0 11 0 3 (aU .gtr 3 71 0 29 0 4 (.split (.u 30 0) Xr (aU .add 3 64 1 17 0 3 (.back 2 [lV 31 0,lV 18 0,lV 19 0,lV 20 0,lV 21 0])))))) (aU .add 3 48 1 11 0 3 (.back 1 [lV 28 0,lV 18 0,lV 19 0,lV 20 0,lV 21 0]))
def Wf:Tr:=bJ .sub 3 51 52 8 0 4 0 3 (bJ .leq 3 50 53 17 0 22 0 4 (.split (.u 23 0) (eD 0 0 11 0 44 57 58 (dI 24 0 none 167 59 (cB 25 0 60 167 (bJ .lss 3 56 61 17 0 26 0 4 XA)))) (aU .add 3 48 1 11 0 3 (.back 1 [lV 24 0,lV 18 0,lV 19 0,lV 20 0,lV 21 0]))))
def Re:Tr:=aK 104 [(G4 20),(G4 21)] [(some 4)] [102,105] [49,49] 49 false (aK 102 [(.agg [(U 12 0),(U 13 0),(U 14 0),(U 15 0)]),(G4 22)] [(some 4)] [96,106] [49,49] 49 false (aK 105 [(G4 23)] [(some 4)] [107] [49] 49 true (.need (.lit 4 [[(.u 24 0),(.u 24 1),(.u 24 2),(.u 24 3)]]) (.buildSlice 50 1 #[(0,(tT 108))]) 50 false (.need (.app 4 64 (some 9) none (some 25)) (.call ⟨.builtin .append,#[(tT 95),(tT 109)],#[50,50]⟩) 50 false (aU .add 3 43 1 8 0 3 (.back 0 [lV 27 0, .row 26]))))))
def Uw:Tr:=bJ .leq 3 45 46 11 0 4 0 4 (.split (.u 16 0) (.loop 2 [lK 0,lV 12 0,lV 13 0,lV 14 0,lV 15 0] Wf) (eD 0 0 4 0 44 97 98 (dI 17 0 none 167 99 (.need (.prim [(W 18 0),(WK 0)] none) (.indexAddr 167 (tT 100) (.const (I3 0))) 0 false (dI 19 0 (some 4) 49 101 (aK 103 [(W 8 0),(W 4 0)] [(some 4)] [103,104] [3,3] 49 false Re))))))
def av5:Tr:=.split (.u 7 0) (bJ .lss 3 22 23 5 0 2 0 4 (.split (.u 8 0) at4 (.loop 0 [lV 4 0, .row 6] (bJ .lss 3 40 41 9 0 2 0 4 (.split (.u 11 0) (.loop 1 [lK 0,lK 0,lN,lK 0,lN] UO) (.ret [(.one (.c (.sr 4 10)))])))))) (.loop 0 [lV 4 0, .row 6] (bJ .lss 3 40 41 8 0 2 0 4 (.split (.u 10 0) (.loop 1 [lK 0,lK 0,lN,lK 0,lN] Uw) (.ret [(.one (.c (.sr 4 9)))]))))
def ac7:Tr:=cB 0 0 15 44 (aU .sub 3 16 1 3 0 3 (.loop 0 [lK 0, .nilrow] (bJ .lss 3 18 19 5 0 4 0 4 av5)))
theorem OQ:aN prog f28 (fun _=>none) [.v none, .v none, .v none]=ac7:=by kernel_rfl
def yJ (e:List (List RQ)) (c:RQ):List (List RQ):=e.map fun p=>gW p [c, .of ((1:Int):Rat)] p.length
theorem IV (e:List (List RQ)) (c:RQ) (F:Nat) (C:∀ p∈e,It F p [c, .of ((1:Int):Rat)]∧p.length≤1048576) (hF:F≤100000000) (h64:64≤F) (hs:e.length<1048576):aM prog 125 [(.one (eR e):aF),(dE c:aF)] (.ret [.one (eR (yJ e c))]):=by
 refine aD (args:=[.v none, .v (some 4)]) (ins:=[.v (.one (eR e)), .v (dE c)]) (hints:=(fun _=>none)) fo (by kernel_rfl) func125 ⟨rfl,rfl,trivial⟩ ?_;rw [Ul];dsimp only [List.map,In.env,aB,aA];refine bC {i:Nat // i≤e.length} (fun g=>[.one (.int .i64 g.1), .rows ((yJ (e.take g.1) c).map cR)]) (fun g=>e.length-g.1) ⟨0,Nat.zero_le _⟩ aO.rfl (fun _=>rfl) ?_;rintro ⟨i,hi⟩;dsimp only [aB,aA] at hi ⊢;have hsl:(yJ (e.take i) c).length=i:=by rw [yJ,List.length_map,List.length_take];omega
 refine vn (aP jN (List.length_map _)) rfl ?_;dsimp only [aB,aA];refine vn bB rfl ?_;dsimp only [aB,aA];refine vs _ rfl (fun h3=>?_) (fun h3=>?_)
 ·obtain ⟨p,hp⟩:∃ p,e[i]? = some p:=⟨_,List.getElem?_eq_getElem (by omega)⟩
  obtain ⟨hC,hl⟩:=C p (List.mem_of_getElem? hp);refine vn (aW jN (by omega) (by omega) hp) rfl ?_;dsimp only [aB,aA];refine vn (bF mI) rfl ?_;dsimp only [aB,aA];refine aC (iL 1 (by omega) (by omega)) rfl ?_;dsimp only [aB,aA];refine cL (us:=rR [c, .of ((1:Int):Rat)]) rfl ?_;dsimp only [aB,aA];refine aC (JK p [c, .of ((1:Int):Rat)] F hC hF h64 (by simp only [List.length_cons,List.length_nil];omega) (by omega)) rfl ?_;dsimp only [aB,aA];refine cL (us:=[cR (gW p [c, .of ((1:Int):Rat)] p.length)]) rfl ?_;dsimp only [aB,aA];refine jQ (xs:=yJ (e.take i) c) (x:=gW p [c, .of ((1:Int):Rat)] p.length) (f:=cR) rfl rfl (by omega) (by simp only [maxLen];omega) ?_;rw [show yJ (e.take i) c ++ [gW p [c, .of ((1:Int):Rat)] p.length]=yJ (e.take (i+1)) c from pT (f:=fun p:List RQ=>gW p [c, .of ((1:Int):Rat)] p.length) hp];dsimp only [aB,aA];refine vn (aE (by omega) (by omega)) rfl ?_;dsimp only [aB,aA];exact aR rfl ⟨⟨i+1,by omega⟩,aO.rfl,by show e.length-(i+1)<e.length-i;omega⟩
 rw [show i=e.length by omega,List.take_length];exact aL rfl
theorem Fit.aR4 {B:Nat} {q:Rat} (h:Fit B q):Fit B (-q):=⟨by show (-q.num).natAbs<_;rw [Int.natAbs_neg];exact h.1,h.2⟩
theorem yF {B:Nat} {q:List (List Rat)} {m:Nat} {lead:Rat} {y:List Rat} {N:Nat} (C:fU B q m lead y N):∀ {n:Nat},n≤N→∀ {b:Rat},b∈aV q m lead y n→Fit B b
 | 0,_,b,hb=>by cases hb
 | n+1,hn,b,hb=>by
   rw [aV] at hb;rcases List.mem_append.1 hb with h | h
   ·exact yF C (by omega) h
   ·rw [List.mem_singleton.1 h];exact C.fa n (by omega)
set_option maxHeartbeats 4000000 in
theorem Ot (e:List (List RQ)) (y:List RQ) (n N B m:Nat) (lead:RQ) (p0:List RQ) (hem:e[m]? = some p0) (hp0:p0[0]? = some lead) (hel:e.length=m+1) (C:fU B (fG e) m lead.q (y.map RQ.q) N) (hnN:n≤N) (hN:N≤1048576) (hm:m≤64) (hmN:m≤N) (hB:B≤350000000) (h64:64≤B) (hyl:y.length=m) (hpl:∀ p∈e,p.length≤1048576) (hl0:lead.q≠0):aM prog 28 [(.one (eR e):aF),(.one (sR y):aF),(.one (.int .i64 n):aF)] (.ret [.one (sR ((aV (fG e) m lead.q (y.map RQ.q) n).map RQ.of))]):=by
 refine aD (args:=[.v none, .v none, .v none]) (ins:=[.v (.one (eR e)), .v (.one (sR y)), .v (.one (.int .i64 n))]) (hints:=(fun _=>none)) fo (by kernel_rfl) func28 ⟨rfl,rfl,rfl,trivial⟩ ?_;rw [OQ];dsimp only [List.map,In.env,aB,aA];have hlen:=fun k=>bM (fG e) m lead.q (y.map RQ.q) k;have hfl:=fun k (hk:k<m)=>C.ffac k hk;have hsn:∀ k,(aV (fG e) m lead.q (y.map RQ.q) k).map RQ.of ++ [.of (gN (fG e) m lead.q (y.map RQ.q) k (aV (fG e) m lead.q (y.map RQ.q) k))]=(aV (fG e) m lead.q (y.map RQ.q) (k+1)).map RQ.of:=fun k=>by rw [aV,List.map_append];rfl
 refine vn (aP jN (List.length_map _)) rfl ?_;dsimp only [aB,aA];refine vn (aG (by omega) (by omega)) rfl ?_;rw [show (e.length:Int)-1=(m:Int) by omega];dsimp only [aB,aA];refine bC {i:Nat // i≤m∧i≤n} (fun g=>[.one (.int .i64 g.1), .rows (rR ((aV (fG e) m lead.q (y.map RQ.q) g.1).map RQ.of))]) (fun g=>m-g.1) ⟨0,Nat.zero_le _,Nat.zero_le _⟩ aO.rfl (fun _=>rfl) ?_;rintro ⟨i,hi,hin⟩;dsimp only [aB,aA] at hi hin ⊢;have hli:=hlen i;refine vn bB rfl ?_;dsimp only [aB,aA];refine vs _ rfl (fun h4=>?_) (fun h4=>?_)
 ·refine vn bB rfl ?_;dsimp only [aB,aA];refine vs _ rfl (fun h6=>?_) (fun h6=>?_)
  ·obtain ⟨yi,hyi⟩:∃ yi,y[i]? = some yi:=⟨_,List.getElem?_eq_getElem (by omega)⟩
   have him:i<m:=by omega
   have hyg:(y.map RQ.q).getD i 0=yi.q:=by rw [List.getD_eq_getElem?_getD,List.getElem?_map,hyi];rfl
   have hyf:Fit B yi.q:=C.fy _ (List.mem_map_of_mem (List.mem_of_getElem? hyi));have hff:=hfl i him;refine vn (aW La (by omega) (by omega) hyi) rfl ?_;dsimp only [aB,aA];refine vn (bO qG (by decide) (by simp) (.inl rfl)) rfl ?_;dsimp only [aB,aA];refine aC (mA (i:Int) i B (by omega) (by omega) (by omega) (by omega) h64 hff) rfl ?_;dsimp only [aB,aA];refine aC (uY yi (.of ((bG i i:Int):Rat)) B B (Ln (mC (Int.le_refl _))) hyf (hff i (Nat.le_refl _)) (by omega)) rfl ?_;rw [show yi.q/(RQ.of ((bG i i:Int):Rat)).q=gN (fG e) m lead.q (y.map RQ.q) i (aV (fG e) m lead.q (y.map RQ.q) i) by rw [gN,if_pos him,hyg];rfl];dsimp only [aB,aA];refine cL (us:=rR [.of (gN (fG e) m lead.q (y.map RQ.q) i (aV (fG e) m lead.q (y.map RQ.q) i))]) rfl ?_;dsimp only [aB,aA];refine jQ (xs:=(aV (fG e) m lead.q (y.map RQ.q) i).map RQ.of) (x:=.of (gN (fG e) m lead.q (y.map RQ.q) i (aV (fG e) m lead.q (y.map RQ.q) i))) (f:=rC) rfl rfl (by rw [List.length_map];omega) (by rw [List.length_map];simp only [maxLen];omega) ?_;rw [hsn];dsimp only [aB,aA];refine vn (aE (by omega) (by omega)) rfl ?_;dsimp only [aB,aA];exact aR rfl ⟨⟨i+1,by omega,by omega⟩,aO.rfl,by show m-(i+1)<m-i;omega⟩
  refine bC Unit (fun _=>[.one (.int .i64 m), .rows (rR ((aV (fG e) m lead.q (y.map RQ.q) i).map RQ.of))]) (fun _=>0) () aO.rfl (fun _=>rfl) ?_;rintro ⟨⟩;dsimp only [aB,aA];refine vn bB rfl ?_;dsimp only [aB,aA];refine vs _ rfl (fun h17=>?_) (fun h17=>?_)
  ·exfalso;omega
  rw [show n=i by omega];exact aL rfl
 have him:i=m:=by omega
 subst him;refine bC {j:Nat // i≤j∧j≤n} (fun g=>[.one (.int .i64 g.1), .rows (rR ((aV (fG e) i lead.q (y.map RQ.q) g.1).map RQ.of))]) (fun g=>n-g.1) ⟨i,Nat.le_refl _,hin⟩ aO.rfl (fun _=>rfl) ?_;rintro ⟨j,hij,hjn⟩;dsimp only [aB,aA] at hij hjn ⊢;have hlj:=hlen j;refine vn bB rfl ?_;dsimp only [aB,aA];refine vs _ rfl (fun h69=>?_) (fun h69=>?_)
 ·have hjn':j<n:=by omega
  have hfx:=fun a k h1 h2=>C.fx j a k (by omega) hij h1 h2;have hel2:(fG e).length=i+1:=by rw [iD,hel]
  generalize hA:aV (fG e) i lead.q (y.map RQ.q) j=A at *;refine bC {g:Nat×RQ // g.1≤i+1∧g.2.q = -(outer (fG e) A i j g.1)} (fun g=>(.one (.int .i64 g.1.1):aF)::(rC g.1.2).map aF.one) (fun g=>i+1-g.1.1) ⟨(0, .nil),Nat.zero_le _,by show (0:Rat) = -(0:Rat);grind⟩ ⟨aF.Sub.same,jL.1,jL.2.1,jL.2.2.1,jL.2.2.2.1,trivial⟩ (fun _=>rfl) ?_;rintro ⟨⟨a,r⟩,ha,hr⟩;dsimp only [aB,aA,List.map] at ha hr ⊢;refine vn fV rfl ?_;dsimp only [aB,aA];refine vs _ rfl (fun h72=>?_) (fun h72=>?_)
  ·obtain ⟨p,hp⟩:∃ p,e[a]? = some p:=⟨_,List.getElem?_eq_getElem (by omega)⟩
   have hpl':=hpl p (List.mem_of_getElem? hp);have hqa:(fG e).getD a []=p.map RQ.q:=by rw [List.getD_eq_getElem?_getD,fG,List.getElem?_map,hp];rfl
   have hfxa:=fun k h2=>hfx a k (by omega) h2;rw [hqa,List.length_map] at hfxa;refine bC {g:Nat×RQ // g.1≤min p.length (j-i+1)∧g.2.q = -(inner (p.map RQ.q) A i j a (outer (fG e) A i j a) g.1)} (fun g=>(.one (.int .i64 g.1.1):aF)::(rC g.1.2).map aF.one) (fun g=>min p.length (j-i+1)-g.1.1) ⟨(0,r),Nat.zero_le _,hr⟩ aO.rfl (fun _=>rfl) ?_;rintro ⟨⟨k,s⟩,hk,hs⟩;dsimp only [aB,aA,List.map] at hk hs ⊢;refine vn (aG (by omega) (by omega)) rfl ?_;dsimp only [aB,aA];refine vn fV rfl ?_;dsimp only [aB,aA];refine vs _ rfl (fun h76=>?_) (fun h76=>?_)
   ·refine vn (aW jN (by omega) (by omega) hp) rfl ?_;dsimp only [aB,aA];refine vn (bF mI) rfl ?_;dsimp only [aB,aA];refine vn (aP dX (List.length_map _)) rfl ?_;dsimp only [aB,aA];refine vn bB rfl ?_;dsimp only [aB,aA];refine vs _ rfl (fun h81=>?_) (fun h81=>?_)
    ·have hkp:k<p.length:=by omega
     have hkj:k≤j-i:=by omega
     obtain ⟨x,hx⟩:∃ x,p[k]? = some x:=⟨_,List.getElem?_eq_getElem hkp⟩
     have hxg:(p.map RQ.q).getD k 0=x.q:=by rw [List.getD_eq_getElem?_getD,List.getElem?_map,hx];rfl
     have hxf:Fit B x.q:=C.fq _ (by rw [fG];exact List.mem_map_of_mem (List.mem_of_getElem? hp)) _ (List.mem_map_of_mem (List.mem_of_getElem? hx));refine vn (aE (by omega) (by omega)) rfl ?_;dsimp only [aB,aA];refine vn (aG (by omega) (by omega)) rfl ?_;dsimp only [aB,aA];refine vn dB rfl ?_;dsimp only [aB,aA];refine vs _ rfl (fun h85=>?_) (fun h85=>?_)
     ·have hpos:a<i+k:=by omega
      obtain ⟨t,ht⟩:∃ t,j-(i+k-a)=t:=⟨_,rfl⟩
      have htj:(j:Int)-((i:Int)+(k:Int)-(a:Int))=(t:Int):=by omega
      have hAl:A.length=j:=hlj;obtain ⟨at',hat⟩:∃ z,A[t]? = some z:=⟨_,List.getElem?_eq_getElem (by omega)⟩
      have hmapl:(A.map RQ.of).length=j:=by rw [List.length_map];exact hAl
      have hag:A.getD (j-(i+k-a)) 0=at':=by rw [ht,List.getD_eq_getElem?_getD,hat];rfl
      refine vn (aW jN (by omega) (by omega) hp) rfl ?_;dsimp only [aB,aA];refine vn (bF mI) rfl ?_;dsimp only [aB,aA];refine vn (aW dX (by omega) (by omega) hx) rfl ?_;dsimp only [aB,aA];refine vn (bO qG (by decide) (by simp) (.inl rfl)) rfl ?_;dsimp only [aB,aA];refine vn (aG (by omega) (by omega)) rfl ?_;rw [htj];dsimp only [aB,aA];have hfz:∀ w,w≤a→Fit B ((bG (t:Int) w:Int):Rat):=fun w hw=>C.ffall j a (by omega) (by omega) (t:Int) (by omega) w hw;refine aC (mA (t:Int) a B (by omega) (by omega) (by omega) (by omega) h64 hfz) rfl ?_;dsimp only [aB,aA];refine vn (aG (by omega) (by omega)) rfl ?_;rw [htj];dsimp only [aB,aA];refine cV rfl rfl (by omega) (by first | omega | (rw [List.length_set];omega)) ?_;have hrow:(A.map RQ.of)[((t:Nat):Int).toNat]? = some (RQ.of at'):=by rw [Int.toNat_natCast,List.getElem?_map,hat];rfl
      refine NH rfl rfl (by omega) (by omega) hrow (.inl rfl) rfl ?_;dsimp only [aB,aA,Mi,List.drop,List.take]
      have haf:Fit B at':=by
       have hmem:=List.mem_of_getElem? hat;rw [←hA] at hmem;exact yF C (by omega) hmem
      refine aC (eW (.of ((bG (t:Int) a:Int):Rat)) (.of at') B B (hfz a (Nat.le_refl _)) haf (by omega)) rfl ?_;dsimp only [aB,aA];refine aC (eW x (.of ((RQ.of ((bG (t:Int) a:Int):Rat)).q*(RQ.of at').q)) B (B+B) hxf ((hfz a (Nat.le_refl _)).mul haf) (by omega)) rfl ?_;dsimp only [aB,aA];have hsf:Fit B s.q:=by rw [hs];exact Fit.aR4 (hfxa k hk)
      refine aC (jU s _ B (B+(B+B)) hsf (hxf.mul ((hfz a (Nat.le_refl _)).mul haf)) (by omega)) rfl ?_;dsimp only [aB,aA];refine vn (aE (by omega) (by omega)) rfl ?_;dsimp only [aB,aA]
      exact aR rfl ⟨⟨(k+1,_),by dsimp only;omega,by
       show s.q+x.q*(((bG (t:Int) a:Int):Rat)*at')=_;dsimp only;rw [hs,inner,if_pos hpos,hxg,htj,hag]
       grind⟩,aO.rfl,by show min p.length (j-i+1)-(k+1)<min p.length (j-i+1)-k;omega⟩
     refine vn (aE (by omega) (by omega)) rfl ?_;dsimp only [aB,aA]
     exact aR rfl ⟨⟨(k+1,s),by dsimp only;omega,by
      dsimp only;rw [hs,inner,if_neg (by omega)]⟩,aO.rfl,by show min p.length (j-i+1)-(k+1)<min p.length (j-i+1)-k;omega⟩
    refine vn (aE (by omega) (by omega)) rfl ?_;dsimp only [aB,aA]
    exact aR rfl ⟨⟨(a+1,s),by dsimp only;omega,by
     dsimp only;rw [hs,outer,hqa,List.length_map,show min p.length (j-i+1)=k by omega]⟩,aO.rfl,by show i+1-(a+1)<i+1-a;omega⟩
   refine vn (aE (by omega) (by omega)) rfl ?_;dsimp only [aB,aA]
   exact aR rfl ⟨⟨(a+1,s),by dsimp only;omega,by
    dsimp only;rw [hs,outer,hqa,List.length_map,show min p.length (j-i+1)=k by omega]⟩,aO.rfl,by show i+1-(a+1)<i+1-a;omega⟩
  have hai:a=i+1:=by omega
  subst hai;have hqi:(fG e).getD i []=p0.map RQ.q:=by rw [List.getD_eq_getElem?_getD,fG,List.getElem?_map,hem];rfl
  have hro:Fit B r.q:=by
   rw [hr];refine Fit.aR4 ?_;have:=hfx i (min ((fG e).getD i []).length (j-i+1)) (by omega) (Nat.le_refl _);exact this
  have hfz:∀ w,w≤i→Fit B ((bG (j:Int) w:Int):Rat):=fun w hw=>C.ffall j i (by omega) (by omega) (j:Int) (by omega) w hw;have hfn:((bG (j:Int) i:Int):Rat)≠0:=Ln (mC (by omega));refine vn (aW jN (by omega) (by omega) hem) rfl ?_;dsimp only [aB,aA];refine vn (bF mI) rfl ?_;dsimp only [aB,aA];refine vn (aW dX (by omega) (by omega) hp0) rfl ?_;dsimp only [aB,aA];refine vn (bO qG (by decide) (by simp) (.inl rfl)) rfl ?_;dsimp only [aB,aA];refine aC (mA (j:Int) i B (by omega) (by omega) (by omega) (by omega) h64 hfz) rfl ?_;dsimp only [aB,aA];refine aC (eW lead (.of ((bG (j:Int) i:Int):Rat)) B B C.flead (hfz i (Nat.le_refl _)) (by omega)) rfl ?_;dsimp only [aB,aA]
  refine aC (uY r (.of (lead.q*(RQ.of ((bG (j:Int) i:Int):Rat)).q)) B (B+B) (fun e0=>by
   rcases Rat.mul_eq_zero.1 e0 with e0 | e0
   ·exact hl0 e0
   ·exact hfn e0) hro (C.flead.mul (hfz i (Nat.le_refl _))) (by omega)) rfl ?_
  dsimp only [aB,aA];refine aC (FP _) rfl ?_
  rw [show -(RQ.of (r.q/(RQ.of (lead.q*(RQ.of ((bG (j:Int) i:Int):Rat)).q)).q)).q=gN (fG e) i lead.q (y.map RQ.q) j A by
   show -(r.q/(lead.q*((bG (j:Int) i:Int):Rat)))=_;rw [gN,if_neg (by omega),hel2,hr];rw [Rat.div_def,Rat.div_def]
   grind]
  dsimp only [aB,aA];refine cL (us:=rR [.of (gN (fG e) i lead.q (y.map RQ.q) j A)]) rfl ?_;dsimp only [aB,aA];refine jQ (xs:=A.map RQ.of) (x:=.of (gN (fG e) i lead.q (y.map RQ.q) j A)) (f:=rC) rfl rfl (by rw [List.length_map];omega) (by rw [List.length_map];simp only [maxLen];omega) ?_;have hsnj:=hsn j;rw [hA] at hsnj;rw [hsnj];dsimp only [aB,aA];refine vn (aE (by omega) (by omega)) rfl ?_;dsimp only [aB,aA];exact aR rfl ⟨⟨j+1,by omega,by omega⟩,aO.rfl,by show n-(j+1)<n-j;omega⟩
 rw [show n=j by omega];exact aL rfl
open Go Go.Proofs Tryz Ord
theorem PF (a b:List RQ):(Ki a b).map RQ.q=Gw (a.map RQ.q) (b.map RQ.q):=by
 rw [Ki,pP,Gw,List.length_map,List.length_map,yZ,List.map_map];rfl
theorem Ni (x:Rat) (a b:List RQ):ev ((Ki a b).map RQ.q) x=ev (a.map RQ.q) x+ev (b.map RQ.q) x:=by rw [PF,LR]
theorem Fz (x:Rat) (p:List RQ) (c:Rat):ev ((dV (eK p c)).map RQ.q) x=ev (p.map RQ.q) x*c:=by
 rw [pP,uB,eK,List.map_map,show (RQ.q ∘ fun a:RQ=>RQ.of (a.q*c))=(fun a=>a*c) ∘ RQ.q from rfl,←List.map_map,Lk]
theorem LC (x:Rat) (a b:List RQ):∀ i,i≤b.length→ev ((mulR a b i).map RQ.q) x=ev (a.map RQ.q) x*ev ((b.map RQ.q).take i) x
 | 0,_=>by rw [mulR,List.take_zero];show (0:Rat)=_;rw [eJ];grind
 | i+1,hi=>by
   obtain ⟨z,hz⟩:∃ z,b[i]? = some z:=⟨_,List.getElem?_eq_getElem (by omega)⟩
   have hz':(b.map RQ.q)[i]? = some z.q:=by rw [List.getElem?_map,hz];rfl
   rw [mulR,Ni,LC x a b i (by omega),List.map_append,Fw,List.map_replicate,show RQ.q .nil=0 from rfl,Kl,List.length_replicate,Fz,kJ hz,kZ hz']
   grind
theorem MV (x:Rat) (q:List RQ):∀ i,ev ((oZ q i).map RQ.q) x=ev (q.map RQ.q) x^i
 | 0=>by
   rw [oZ,pP,uB,Rat.pow_zero];show ev [((1:Int):Rat)] x=1;rw [bV,eJ];grind
 | i+1=>by
   rw [oZ,LC x _ q q.length (Nat.le_refl _),MV x q i,Rat.pow_succ,List.take_of_length_le (by rw [List.length_map];exact Nat.le_refl _)]
theorem Jw (x:Rat) (p q:List RQ):∀ i,i≤p.length→ev ((gW p q i).map RQ.q) x=ev ((p.map RQ.q).take i) (ev (q.map RQ.q) x)
 | 0,_=>by rw [gW,List.take_zero];rfl
 | i+1,hi=>by
   obtain ⟨z,hz⟩:∃ z,p[i]? = some z:=⟨_,List.getElem?_eq_getElem (by omega)⟩
   have hz':(p.map RQ.q)[i]? = some z.q:=by rw [List.getElem?_map,hz];rfl
   rw [gW,Ni,Jw x p q i (by omega),Fz,MV,kJ hz,kZ hz']
   grind
theorem HA (p q:List RQ):∀ i,rD ((gW p q i).map RQ.q)
 | 0=>fun a h=>by cases h
 | i+1=>by rw [gW,PF];exact CS _ _
theorem WC (p:List RQ) (c:RQ):(gW p [c, .of ((1:Int):Rat)] p.length).map RQ.q=dP (p.map RQ.q) c.q:=by
 refine SG (HA _ _ _) (lQ _ _) fun x=>?_;rw [Jw x p _ p.length (Nat.le_refl _),List.take_of_length_le (by rw [List.length_map];exact Nat.le_refl _),tY]
 congr 1
 show ev [c.q,((1:Int):Rat)] x=_;rw [bV,bV,eJ];grind
theorem aW3 (e:List (List RQ)) (c:RQ):fG (yJ e c)=(fG e).map (dP · c.q):=by
 rw [fG,yJ,fG,List.map_map,List.map_map];exact List.map_congr_left fun p _=>WC p c
end Go.Sy
