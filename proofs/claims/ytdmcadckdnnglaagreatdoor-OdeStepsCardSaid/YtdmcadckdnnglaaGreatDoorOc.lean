/- Cases in both ways.
-/
import Derived.Test.YtdmcadckdnnglaaGreatDoorOb
set_option linter.unusedVariables false
set_option linter.unusedSimpArgs false
namespace Go.Sy
open Go Go.Proofs Tryz Ord
def ai3:Tr:=.need (.lit 1 [[(.u 8 0)]]) (.buildSlice 32 1 #[(0,(tT 29))]) 32 false (.need (.app 1 24 (some 2) none (some 10)) (.call ⟨.builtin .append,#[(tT 28),(tT 30)],#[32,32]⟩) 32 false (aK 144 [(W 9 0)] [none] [33] [167] 167 false (.need (.lit 1 [[(.u 12 0)]]) (.buildSlice 44 1 #[(0,(tT 34))]) 44 false (.need (.app 1 24 (some 3) none (some 13)) (.call ⟨.builtin .append,#[(tT 32),(tT 35)],#[44,44]⟩) 44 false (aU .add 3 17 1 1 0 3 (.back 0 [lV 15 0, .row 11, .row 14]))))))
def Wc:Tr:=.need (.idx 10 (.u 12 0)) (.indexAddr 50 (tT 51) (tT 53)) 0 false (.need (.strow 10 4 (.u 12 0) 0 [(.u 14 0),(.u 14 1),(.u 14 2),(.u 14 3)]) (.store 49 (tT 57) (tT 55)) 0 false (.need (.lit 1 [[(.sr 3 15)]]) (.buildSlice 32 1 #[(0,(tT 59))]) 32 false (.need (.app 1 24 (some 2) none (some 17)) (.call ⟨.builtin .append,#[(tT 58),(tT 60)],#[32,32]⟩) 32 false (.need (.lit 1 [[(.sr 4 16)]]) (.buildSlice 44 1 #[(0,(tT 63))]) 44 false (.need (.app 1 24 (some 3) none (some 19)) (.call ⟨.builtin .append,#[(tT 62),(tT 64)],#[44,44]⟩) 44 false (.ret [(.one (.c (.sr 1 18))),(.one (.c (.sr 1 20)))]))))))
def Ws:Tr:=.need (.make [(.int .i64 0),(.slice none 0 0),(.int .i64 0),(.slice none 0 0)] 64 (.u 8 0) (.u 8 0)) (.makeSlice 50 (tT 46) (tT 46)) 50 false (aU .sub 3 49 1 8 0 3 (aU .sub 3 52 1 8 0 3 (.need (.call 68 [(WK 1)] [(some 3)]) (.call ⟨.value (.func 68),#[(.const (I3 1))],#[2]⟩) 39 true (.need (.call 50 [(WK 1)] [(some 4)]) (.call ⟨.value (.func 50),#[(.const (I3 1))],#[2]⟩) 49 true (.need (.idx 9 (.u 11 0)) (.indexAddr 40 (tT 48) (tT 50)) 0 false (.need (.strow 9 3 (.u 11 0) 0 [(.u 13 0),(.u 13 1),(.u 13 2)]) (.store 39 (tT 56) (tT 54)) 0 false Wc))))))
def ap5:Tr:=bJ .lss 3 12 15 1 0 4 0 4 (.split (.u 5 0) (eD 0 0 1 0 22 21 22 (dI 6 0 none 27 23 (aK 71 [(W 7 0)] [none,none] [24] [27] 128 false ai3))) (aU .gtr 3 38 0 0 1 4 (.split (.u 6 0) (aU .rem 3 41 50 0 1 3 (aU .add 3 42 1 7 0 3 (.need (.make [(.slice none 0 0),(.bool false),(.slice none 0 0)] 56 (.u 8 0) (.u 8 0)) (.makeSlice 40 (tT 44) (tT 44)) 40 false Ws))) (.ret [(.one (.c (.sr 1 2))),(.one (.c (.sr 1 3)))]))))
def ad0:Tr:=.loop 0 [lK 0, .nilrow, .nilrow] (cB 0 0 14 22 ap5)
theorem HG:aN prog f57 (fun _=>none) [.v (some 2)]=ad0:=by kernel_rfl
def kQ (n:Nat):List Rat:=(List.replicate n (0:Rat)).set (n-1) 1
def IE (n:Nat):List RQ:=(List.replicate n RQ.nil).set (n-1) (.of 1)
def Bw (p:List (List bQ)) (long:Int):List (List Rat):=p.map cJ++if 0<long then [kQ (long%50+1).toNat] else []
def Pc (p:List (List bQ)) (long:Int):List (List RQ):=p.map (fun l=>dV (rF l))++if 0<long then [IE (long%50+1).toNat] else []
theorem qF {α β:Type} {R:α→β→Prop} {a:α} {b:β} (h:R a b):∀ n,aY R (List.replicate n a) (List.replicate n b)
 | 0=>trivial
 | n+1=>⟨h,qF h n⟩
theorem sJ {α β:Type} {R:α→β→Prop} {a:α} {b:β} (h:R a b):∀ {xs:List α} {ys:List β} (m:Nat),aY R xs ys→aY R (xs.set m a) (ys.set m b)
 | [],[],_,_=>trivial
 | _::_,_::_,0,⟨_,k⟩=>⟨h,k⟩
 | _::_,_::_,m+1,⟨j,k⟩=>⟨j,sJ h m k⟩
 | [],_::_,_,k=>k.elim
 | _::_,[],_,k=>k.elim
abbrev z3:List aH:=[.exact (.slice none 0 0), .bool false, .exact (.slice none 0 0)]
abbrev z4:List aH:=[.int .i64 0, .exact (.slice none 0 0), .int .i64 0, .exact (.slice none 0 0)]
theorem WO (n:Nat):aY (aY aH.Sub) ((List.replicate n z3).set (n-1) (qC 1)) ((kQ n).map qC):=by
 rw [kQ,List.map_set,List.map_replicate];exact sJ ⟨aH.Sub.same,aH.Sub.same,aH.Sub.same,trivial⟩ _ (qF iZ n)
theorem PX (n:Nat):aY (aY aH.Sub) ((List.replicate n z4).set (n-1) (rC (.of 1))) ((IE n).map rC):=by
 rw [IE,List.map_set,List.map_replicate];exact sJ ⟨aH.Sub.same,aH.Sub.same,aH.Sub.same,aH.Sub.same,trivial⟩ _ (qF jL n)
theorem Bc {α:Type} {l:List α} {i:Nat} {x:α} (h:l[i]? = some x):l.take i ++ [x]=l.take (i+1):=by
 rw [List.take_add_one,h];rfl
theorem tJ (l:List bQ):(cJ l).length=l.length:=List.length_map _
theorem GK (l:List bQ):(rF l).length=l.length:=List.length_map _
set_option maxHeartbeats 1000000 in
theorem Hh (p:List (List bQ)) (long:Int) (hp:ZC p) (hs:gH p=true) (hl1:-9223372036854775808≤long) (hl2:long<9223372036854775808):aM prog 57 [(.agg [sP p, .int .i64 long]:aF)] (.ret [.one (eQ (Bw p long)), .one (eR (Pc p long))]):=by
 refine aD (args:=[.v (some 2)]) (ins:=[.v (.agg [sP p, .int .i64 long])]) (hints:=(fun _=>none)) fo (by kernel_rfl) func57 ⟨rfl,trivial⟩ ?_;rw [HG];dsimp only [List.map,In.env,aB,aA];have hs:=hs;unfold gH at hs;rw [decide_eq_true_iff] at hs;obtain ⟨hp6,hpx⟩:=hs;refine bC {i:Nat // i≤p.length} (fun g=>[.one (.int .i64 g.1), .rows ((p.take g.1).map fun l=>cQ (cJ l)), .rows ((p.take g.1).map fun l=>cR (dV (rF l)))]) (fun g=>p.length-g.1) ⟨0,Nat.zero_le _⟩ aO.rfl (fun _=>rfl) ?_;rintro ⟨i,hi⟩;dsimp only [aB,aA] at hi ⊢;refine vn (aP JZ (List.length_map _)) rfl ?_;dsimp only [aB,aA];refine vn bB rfl ?_;dsimp only [aB,aA];refine vs _ rfl (fun h3=>?_) (fun h3=>?_)
 ·obtain ⟨l,hl⟩:∃ l,p[i]? = some l:=⟨_,List.getElem?_eq_getElem (by omega)⟩
  have hlm:=List.mem_of_getElem? hl;have hl4:=(hpx l hlm).1;have hti:(p.take i).length≤i:=by rw [List.length_take];omega
  refine vn (aW JZ (by omega) (by omega) hl) rfl ?_;dsimp only [aB,aA];refine vn (bF XN) rfl ?_;dsimp only [aB,aA];refine aC (Xw l (fun x hx=>(hp.p l hlm).2 x hx) (by omega)) rfl ?_;dsimp only [aB,aA];refine cL (us:=[cQ (cJ l)]) rfl ?_;dsimp only [aB,aA];refine jQ (xs:=p.take i) (x:=l) (f:=fun l=>cQ (cJ l)) rfl rfl (by omega) (by simp only [maxLen];omega) ?_;rw [Bc hl];dsimp only [aB,aA];refine aC (wP (rF l) (by rw [GK];omega)) rfl ?_;dsimp only [aB,aA];refine cL (us:=[cR (dV (rF l))]) rfl ?_;dsimp only [aB,aA];refine jQ (xs:=p.take i) (x:=l) (f:=fun l=>cR (dV (rF l))) rfl rfl (by omega) (by simp only [maxLen];omega) ?_;rw [Bc hl];dsimp only [aB,aA];refine vn (aE (by omega) (by omega)) rfl ?_;dsimp only [aB,aA];exact aR rfl ⟨⟨i+1,by omega⟩,aO.rfl,by show p.length-(i+1)<p.length-i;omega⟩
 rw [show i=p.length by omega,List.take_length];refine vn dB rfl ?_;dsimp only [aB,aA];refine vs _ rfl (fun h15=>?_) (fun h15=>?_)
 ·obtain ⟨n,hn⟩:∃ n:Nat,(long%50+1).toNat=n:=⟨_,rfl⟩
  have hn1:long%50+1=(n:Int):=by omega
  have hn2:n≤50:=by omega
  have hn3:1≤n:=by omega
  refine vn (fL (by omega) (by omega)) rfl ?_;dsimp only [aB,aA];refine vn (dW (c:=(n:Int)) (by rw [hn1];exact dN (by omega) (by omega))) rfl ?_;dsimp only [aB,aA];refine rK (n:=n) (m:=n) (us:=List.replicate n z3) rfl rfl rfl (Nat.le_refl _) (by omega) (by simp only [maxLen];omega) ?_;dsimp only [aB,aA];refine rK (n:=n) (m:=n) (us:=List.replicate n z4) rfl rfl rfl (Nat.le_refl _) (by omega) (by simp only [maxLen];omega) ?_;dsimp only [aB,aA];refine vn (aG (by omega) (by omega)) rfl ?_;dsimp only [aB,aA];refine vn (aG (by omega) (by omega)) rfl ?_;dsimp only [aB,aA];refine aC (jP 1 (by omega) (by omega)) rfl ?_;dsimp only [aB,aA];refine aC (iL 1 (by omega) (by omega)) rfl ?_;dsimp only [aB,aA];refine kX rfl rfl (by omega) (by rw [List.length_replicate];omega) ?_;refine Dy (ts:=List.replicate n z3) (us:=(List.replicate n z3).set (n-1) (qC 1)) rfl rfl (by omega) (cells:=z3) (by rw [show ((n:Int)-1).toNat=n-1 by omega,List.getElem?_replicate,if_pos (by omega)]) (by rw [show ((n:Int)-1).toNat=n-1 by omega];rfl) ?_;dsimp only [aB,aA];refine kX rfl rfl (by omega) (by rw [List.length_replicate];omega) ?_;refine Dy (ts:=List.replicate n z4) (us:=(List.replicate n z4).set (n-1) (rC (.of 1))) rfl rfl (by omega) (cells:=z4) (by rw [show ((n:Int)-1).toNat=n-1 by omega,List.getElem?_replicate,if_pos (by omega)]) (by rw [show ((n:Int)-1).toNat=n-1 by omega];rfl) ?_;dsimp only [aB,aA];refine cL (us:=[[.slice 3 ((List.replicate n z3).set (n-1) (qC 1))]]) rfl ?_;dsimp only [aB,aA];refine uE (ts:=p.map fun l=>cQ (cJ l)) (us:=[[.slice 3 ((List.replicate n z3).set (n-1) (qC 1))]]) rfl rfl rfl (by simp;omega) (by simp [maxLen];omega) ?_;dsimp only [aB,aA];refine cL (us:=[[.slice 4 ((List.replicate n z4).set (n-1) (rC (.of 1)))]]) rfl ?_;dsimp only [aB,aA];refine uE (ts:=p.map fun l=>cR (dV (rF l))) (us:=[[.slice 4 ((List.replicate n z4).set (n-1) (rC (.of 1)))]]) rfl rfl rfl (by simp;omega) (by simp [maxLen];omega) ?_;dsimp only [aB,aA];refine eG ⟨aH.Sub.slice ?_,aH.Sub.slice ?_,trivial⟩
  ·rw [Bw,if_pos h15,hn,List.map_append,List.map_map];exact aY.append (aY.mF (aY.mF aH.Sub.refl) _) ⟨⟨aH.Sub.slice (WO n),trivial⟩,trivial⟩
  ·rw [Pc,if_pos h15,hn,List.map_append,List.map_map];exact aY.append (aY.mF (aY.mF aH.Sub.refl) _) ⟨⟨aH.Sub.slice (PX n),trivial⟩,trivial⟩
 rw [Bw,Pc,if_neg h15,if_neg h15,List.append_nil,List.append_nil];refine aL ?_;rw [eQ,eR,List.map_map,List.map_map];rfl
def cP.kk (c:cP):Nat:=(c.kind-1)%8+1
def cP.nn (c:cP):Int:=if c.n<0∨8<c.n then 2 else c.n
def cP.E (c:cP):List (List Rat):=if 0<c.kind then kE c.kk c.nn else Bw c.p c.long
def cP.X (c:cP):Rat:=if 0<c.kind then 0 else c.c.v
def cP.Y (c:cP):List Rat:=if 0<c.kind then kY c.kk else cJ c.y
def cP.ER (c:cP):List (List RQ):=if 0<c.kind then kER c.kk c.nn else Pc c.p c.long
def cP.XR (c:cP):RQ:=if 0<c.kind then .nil else .of c.c.v
def cP.YR (c:cP):List RQ:=if 0<c.kind then kYR c.kk else rF c.y
end Go.Sy
