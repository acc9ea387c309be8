/- Solutions, tails, shares. A panic on the way is caught. Reach where there is none: by hand. Tail's closure. Tail, by hand: the closure writes what it has found.
-/
import Derived.Test.YtdmcadckdnnglaaGreatDoorVb
import Derived.Test.YtdmcadckdnnglaaGreatDoorQf
import Derived.Test.YtdmcadckdnnglaaGreatDoorOa
import Derived.Test.YtdmcadckdnnglaaGreatDoorSd
set_option linter.unusedVariables false
set_option linter.unusedSimpArgs false
namespace Go.Sy
open Go Go.Proofs Tryz Ord
def ay8:Tr:=bB .add 3 12 1 1 0 3 (bB .add 3 14 1 1 0 3 (bR .sub 3 15 16 5 0 2 0 3 (aP 120 [(W 4 0),(W 6 0)] [(some 3),none] [13,17] [2,2] 90 false (aP 207 [(G3 3),(.agg [(U 0 5),(U 0 6),(U 0 7)])] [(some 3)] [22,24] [39,39] 39 true (aP 36 [(G3 7),(G3 9)] [(some 3)] [21,25] [39,39] 39 true (.ret [(G3 10)]))))))
theorem QC:aN prog f131 (fun _=>none) [.v (some 9), .v none, .v none, .v (some 3)]=ay8:=by kernel_rfl
def Ws:Tr:=.need (.prim [(W 0 0)] none) (.nilCheck (tT 34)) 0 false (.need (.prim [(W 19 0)] none) (.fieldAddr 266 (tT 35) 0) 0 false (eY 20 0 (some 9) 185 36 (aP 131 [(.agg [(U 21 0),(U 21 1),(U 21 2),(U 21 3),(U 21 4),(U 21 5),(U 21 6),(U 21 7),(U 21 8)]),(W 1 0),(W 2 0),(G3 3)] [(some 3)] [37,38,39,40] [185,3,3,39] 39 false (aP 167 [(G3 18),(G3 22)] [(some 3)] [33,41] [39,39] 39 true (aP 207 [(G3 17),(G3 23)] [(some 3)] [32,42] [39,39] 39 true (.ret [(G3 24)]))))))
def ay1:Tr:=aP 203 [(G3 11),(W 1 0)] [(some 3)] [23,24] [39,3] 39 true (aP 207 [(G3 7),(G3 12)] [(some 3)] [18,25] [39,39] 39 true (.need (.prim [(W 0 0)] none) (.nilCheck (tT 27)) 0 false (.need (.prim [(W 14 0)] none) (.fieldAddr 266 (tT 28) 3) 0 false (eY 15 0 (some 3) 39 29 (aP 36 [(G3 16),(G3 13)] [(some 3)] [30,31] [39,39] 39 false (.need (.call 68 [(WK 1)] [(some 3)]) (.call ⟨.value (.func 68),#[(.const (I3 1))],#[2]⟩) 39 false Ws))))))
def ax0:Tr:=bR .sub 3 14 15 1 0 2 0 3 (aP 203 [(G3 3),(W 5 0)] [(some 3)] [13,16] [39,3] 39 false (aP 36 [(G3 4),(G3 6)] [(some 3)] [12,17] [39,39] 39 false (.need (.prim [(W 0 0)] none) (.nilCheck (tT 19)) 0 false (.need (.prim [(W 8 0)] none) (.fieldAddr 266 (tT 20) 0) 0 false (.need (.prim [(W 9 0)] none) (.fieldAddr 185 (tT 21) 1) 0 false (eY 10 0 (some 3) 39 22 ay1))))))
def aA3:Tr:=aP 209 [(W 1 0),(W 2 0)] [(some 3)] [10,11] [3,3] 39 false ax0
theorem VY:aN prog f133 (fun _=>none) [.v none, .v none, .v none, .v (some 3)]=aA3:=by kernel_rfl
def cH (aF:Rat) (n d:Int) (r:Rat):Rat:=((n+1:Int):Rat)/((n+1-d:Int):Rat)*(r/aF)
def GP (a:List Rat) (aF:Rat) (n0:Nat):Nat→Rat
 | 0=>0
 | k+1=>lT [GP a aF n0 k,(a.getD (n0+k) 0).abs*aF^(n0+k)] 2
def fS (b aF:Rat) (n d:Nat) (r:Rat):Rat:=b*(((bL n d:Int):Rat)*r^(n-d)/aF^n)/(((1:Int):Rat)-cH aF n d r)
abbrev ar9 (a:List aI) (aF:Rat) (st:Int):List aI:=a++qC aF ++ [.int .i64 st]
theorem QF (a0 a1 a2 a3 a4:aI) (aF:Rat) (st:Int) (n d:Int) (r:Rat) (B:Nat) (h0:aF≠0) (hn1:-1099511627776≤n) (hn2:n<1099511627776) (hd1:-1099511627776≤d) (hd2:d<1099511627776) (hnd:n+1-d≠0) (hr:Fit B r) (hrho:Fit B aF) (hB:B≤8589934592):aK prog 131 [(.agg (ar9 [a0,a1,a2,a3,a4] aF st):aG),(.one (.int .i64 n):aG),(.one (.int .i64 d):aG),(qT r:aG)] (.ret [qT (cH aF n d r)]):=by
 refine aD (args:=[.v (some 9), .v none, .v none, .v (some 3)]) (ins:=[.v (.agg (ar9 [a0,a1,a2,a3,a4] aF st)), .v (.one (.int .i64 n)), .v (.one (.int .i64 d)), .v (qT r)]) (hints:=(fun _=>none)) fo (by kernel_rfl) func131 ⟨rfl,rfl,rfl,rfl,trivial⟩ ?_;rw [QC];dsimp only [List.map,In.env,aA,aB];refine vn (aE (by omega) (by omega)) rfl ?_;dsimp only [aA,aB];refine vn (aE (by omega) (by omega)) rfl ?_;dsimp only [aA,aB];refine vn (aJ (by omega) (by omega)) rfl ?_;dsimp only [aA,aB];have ho:=aq9 (n+1) (n+1-d) (by omega) (by omega) (by omega) (by omega);rw [if_neg hnd,if_neg hnd] at ho;refine aC ho rfl ?_;dsimp only [aA,aB];refine aC (rH r aF B B h0 hr hrho (by omega)) rfl ?_;dsimp only [aA,aB];refine aC (cP _ _ 128 (B+B) ((fD (by omega) (by omega)).div (fD (by omega) (by omega))) (hr.div hrho) (by omega)) rfl ?_;exact aL rfl
theorem Mx {x:Rat} (h:x<1):((1:Int):Rat)-x≠0:=fun e=>by
 have:x=1:=by grind
 rw [this] at h;exact absurd h (by decide)
structure qP (B:Nat) (aF:Rat) (n d:Nat) (r:Rat):Prop where
 ff:∀ j,j≤d→Fit B ((bL n j:Int):Rat)
 fr:∀ j,j≤2*n+1→Fit B (r^j)
 fo:∀ j,j≤2*n+1→Fit B (aF^j)
theorem qP.r1 {B:Nat} {aF:Rat} {n d:Nat} {r:Rat} (h:qP B aF n d r):Fit B r:=by have:=h.fr 1 (by omega);rwa [Rat.pow_succ,Rat.pow_zero,Rat.one_mul] at this
theorem qP.o1 {B:Nat} {aF:Rat} {n d:Nat} {r:Rat} (h:qP B aF n d r):Fit B aF:=by have:=h.fo 1 (by omega);rwa [Rat.pow_succ,Rat.pow_zero,Rat.one_mul] at this
theorem qP.sh {B:Nat} {aF:Rat} {n d:Nat} {r:Rat} (h:qP B aF n d r) (hn:n<4611686018427387904) (hd:d<4611686018427387904):Fit (128+(B+B)) (cH aF n d r):=
 ((fD (n:=(n:Int)+1) (by omega) (by omega)).div (fD (n:=(n:Int)+1-d) (by omega) (by omega))).mul (h.r1.div h.o1)
abbrev Lm (ar:List aI) (aF:Rat) (st:Int) (y a:List Rat) (b:Rat):List aI:=(ar++qC aF ++ [.int .i64 st]) ++ [sQ y,sQ a]++qC b
set_option maxHeartbeats 1000000 in
theorem MJ (a0 a1 a2 a3 a4:aI) (aF:Rat) (st:Int) (y a:List Rat) (b:Rat) (n d:Nat) (r:Rat) (B:Nat) (C:qP B aF n d r) (hn:n<1099511627776) (hd:d≤n) (h0:aF≠0) (hb:Fit B b) (hB:B≤2147483648) (h64:64≤B) (hs1:cH aF n d r<1):aK prog 133 [(.one (.bC (Lm [a0,a1,a2,a3,a4] aF st y a b)):aG),(.one (.int .i64 n):aG),(.one (.int .i64 d):aG),(qT r:aG)] (.ret [qT (fS b aF n d r)]):=by
 refine aD (args:=[.v none, .v none, .v none, .v (some 3)]) (ins:=[.v (.one (.bC (Lm [a0,a1,a2,a3,a4] aF st y a b))), .v (.one (.int .i64 n)), .v (.one (.int .i64 d)), .v (qT r)]) (hints:=(fun _=>none)) fo (by kernel_rfl) func133 ⟨rfl,rfl,rfl,rfl,trivial⟩ ?_;rw [VY];dsimp only [List.map,In.env,aA,aB];have hff:=C.ff d (Nat.le_refl _);have hfr:=C.fr (n-d) (by omega);have hfo:=C.fo n (by omega);have hsh:=C.sh (by omega) (by omega);have hp0:=uW h0 n;refine aC (lQ (n:Int) d B (by omega) (by omega) (by omega) (by omega) h64 (fun j hj=>C.ff j hj)) rfl ?_;dsimp only [aA,aB];refine vn (aJ (by omega) (by omega)) rfl ?_;dsimp only [aA,aB];rw [show (n:Int)-(d:Int)=((n-d:Nat):Int) by omega];refine aC (iI r (n-d) B (by omega) (by omega) (fun j hj=>C.fr j (by omega))) rfl ?_;dsimp only [aA,aB];refine aC (cP _ _ B B hff hfr (by omega)) rfl ?_;dsimp only [aA,aB];refine vn Ow rfl ?_;dsimp only [aA,aB];refine vn (rD NX (by decide)) rfl ?_;dsimp only [aA,aB];refine vn (rD YI (by decide)) rfl ?_;dsimp only [aA,aB];refine vn (bZ rZ (by decide) (by simp) (.inl rfl)) rfl ?_;dsimp only [aA,aB];refine aC (iI aF n B (by omega) (by omega) (fun j hj=>C.fo j (by omega))) rfl ?_;dsimp only [aA,aB];refine aC (rH _ _ (B+B) B hp0 (hff.mul hfr) hfo (by omega)) rfl ?_;dsimp only [aA,aB];refine vn Ow rfl ?_;dsimp only [aA,aB];refine vn (rD XS (by decide)) rfl ?_;dsimp only [aA,aB];refine vn (bZ rZ (by decide) (by simp) (.inl rfl)) rfl ?_;dsimp only [aA,aB];refine aC (cP _ _ B (B+B+B) hb ((hff.mul hfr).div hfo) (by omega)) rfl ?_;dsimp only [aA,aB];refine aC (iV 1 (by omega) (by omega)) rfl ?_;dsimp only [aA,aB];refine vn Ow rfl ?_;dsimp only [aA,aB];refine vn (rD NX (by decide)) rfl ?_;dsimp only [aA,aB];refine vn (bZ ZT (by decide) (by simp) (.inl rfl)) rfl ?_;dsimp only [aA,aB];refine aC (QF a0 a1 a2 a3 a4 aF st n d r B h0 (by omega) (by omega) (by omega) (by omega) (by omega) C.r1 C.o1 (by omega)) rfl ?_;dsimp only [aA,aB];refine aC (Sz _ _ 64 (128+(B+B)) (Fit.int (by omega) (by omega)) hsh (by omega)) rfl ?_;dsimp only [aA,aB];refine aC (rH _ _ (B+(B+B+B)) (64+(128+(B+B))+1) (Mx hs1) (hb.mul ((hff.mul hfr).div hfo)) ((Fit.int (by omega) (by omega)).sub hsh) (by omega)) rfl ?_;exact aL rfl
open Go Go.Proofs Go.RowKit Tryz Ord
attribute [local go_sem] Oper.semAt_some
abbrev Vh (e:Int):Value:=.iface 261 (.agg #[.int .i64 e])
theorem EZ:∃ fs,prog.underlying 261=some (.struct fs):=by
 have hd:(prog.underlying 261).any (fun d=>match d with | .struct _=>true | _=>false)=true:=by kernel_rfl
 cases hu:prog.underlying 261 with
 | none=>rw [hu] at hd;cases hd
 | some d=>
   rw [hu] at hd;cases d<;>first | (cases hd;done) | exact ⟨_,rfl⟩
theorem Lq (e:Int) (T:TypeId) (w:World):(Instr.typeAssert (Vh e) T 261 true).run prog w = .ok (.tuple #[.agg #[.int .i64 e], .bool true]) w:=by
 obtain ⟨fs,hu⟩:=EZ;simp [Instr.typeAssert,run_underlying hu]
set_option maxRecDepth 100000 in
theorem Fe (b:Nat) (e:Int) (w:World) (hb:w.heap[b]? = some (.cells #[.int .i64 0] 55 (0,0))) :
  CallsD prog 201 #[.pointer (some ⟨b,0,none⟩)] (.panicking [{ v:=Vh e,recovered:=false }]) w fun r u' w'=>r = .returned (.tuple #[])∧u' = .panicking [{ v:=Vh e,recovered:=true }]∧w.grownBy w' (some b)∧w'.heap[b]? = some (.cells #[.int .i64 e] 55 (0,0)):=by
 have cb:w.cell? ⟨b,0,none⟩=some (.int .i64 0):=aH hb rfl;have fb:w.frozen? ⟨b,0,none⟩=false:=by simp [World.frozen?,hb]
 refine callsD_of_wpS func201 rfl fun c₀ cs hu=>?_;apply wpS_seq;apply wpS_region;simp [wpOpsS,go_sem,recoverD,hu,ntmps201,Exit.thenS];apply wpS_seq;apply wpS_region;simp [wpOpsS,go_sem,Exit.thenS];refine wpS_cond (t:=true) (by simp [Act.eval,Array.replicate]) ?_;simp only [if_true];have hlt:b<w.heap.size:=(Array.getElem?_eq_some_iff.1 hb).1;have hb1:(w.alloc (.cells #[.int .i64 e] 261)).heap[b]? = some (.cells #[.int .i64 0] 55 (0,0)):=by rw [heap_alloc_old _ _ _ hlt];exact hb
 have cb1:(w.alloc (.cells #[.int .i64 e] 261)).cell? ⟨b,0,none⟩=some (.int .i64 0):=aH hb1 rfl;have fb1:(w.alloc (.cells #[.int .i64 e] 261)).frozen? ⟨b,0,none⟩=false:=by simp [World.frozen?,hb1]
 refine wpS_of_wp ?_;have hta:=fun T w=>Lq e T w;simp only [Array.replicate_succ,Array.replicate_zero,List.push_toArray,List.append_toArray,List.nil_append,List.cons_append,List.setIfInBounds_toArray,List.set_cons_zero,List.set_cons_succ]
 go_wp2
 rw [setCell_eq_setRow w b 0 _ _ _ _ hb,show (#[Value.int .i64 0].setIfInBounds 0 (.int .i64 e)) = #[Value.int .i64 e] from rfl];have hs:(w.setRow b #[.int .i64 e]).heap.size=w.heap.size:=by simp [World.setRow]
 have hg:w.grownBy ((w.setRow b #[.int .i64 e]).alloc (.cells #[.int .i64 e] 261)) (some b):=by
  refine ⟨rfl,rfl,rfl,by rw [World.size_alloc,hs];omega,fun k hk hne=>?_⟩;rw [heap_alloc_old _ _ _ (by rw [hs];exact hk),setRow_other _ _ _ _ (fun e=>hne (by rw [e]))]
 have hh:((w.setRow b #[.int .i64 e]).alloc (.cells #[.int .i64 e] 261)).heap[b]? = some (.cells #[.int .i64 e] 55 (0,0)):=by
  rw [heap_alloc_old _ _ _ (by rw [hs];exact hlt)];exact setRow_heap _ _ _ _ _ _ hb
 generalize (w.setRow b #[.int .i64 e]).alloc (.cells #[.int .i64 e] 261)=W at *;cases c₀
 simp_all [bodyPostS,results,show f201.results = #[] from rfl]
theorem Cj (g:FuncId) (caps:Array Value) (w:World) (e:Int) (Pw:World→Prop) (eg:∀ args w,(callFunc g args).run prog w = .ok (.enter g args) w)
  (h:Calls prog g caps (w.alloc (.cells #[.int .i64 0] 55)) fun r w'=>r = .panicked [{ v:=Vh e,recovered:=false }]∧w'.heap[w.heap.size]? = some (.cells #[.int .i64 0] 55 (0,0))∧Pw w') :
  Calls prog 121 #[.func (.func g) #[] caps] w fun r w'=>r = .returned (.int .i64 e)∧∃ w1,Pw w1∧w1.grownBy w' (some w.heap.size):=by
 have hmf:∀ (fn:Fn) (first cap:Array Value) (w:World),(Instr.makeFunc fn first cap).run prog w = .ok (.func fn first cap) w:=fun _ _ _ _=>rfl
 go_enter_defers func121,ntmps121
 go_wp2
 refine h.mono ?_;rintro r w1 ⟨rfl,hb,hP⟩;refine leaves_cons (f:=201) (args:=#[.pointer (some ⟨w.heap.size,0,none⟩)]) (by simp) (by simp [go_sem]) ?_;refine (Fe w.heap.size e _ hb).mono ?_;rintro r u' w2 ⟨rfl,rfl,hg,hb2⟩;have cb2:w2.cell? ⟨w.heap.size,0,none⟩=some (.int .i64 e):=aH hb2 rfl;simp [Leaves,settle,results,show f121.results = #[.cell 2 55] from rfl,go_sem,cb2];exact ⟨w1,hP,hg⟩
end Go.Sy
namespace Go.Sy
open Go Go.Proofs Go.RowKit Tryz Ord
attribute [local go_sem] Oper.semAt_some
theorem ac9 {M:Nat→Prop} {w:World} {e:Int} {r:Ending} (h:sK M w (.pan (MK e)) r):r = .panicked [{ v:=Vh e,recovered:=false }]:=by
 obtain ⟨v,rfl,hv⟩:=h;rw [show v=Vh e from hv.1]
end Go.Sy
namespace Go.Sy
open Go Go.Proofs Tryz Ord
def az4 (aF:Rat) (st:Int) (n d:Int) (r:Rat):Prop:=0≤d∧d≤4∧0≤r.num.sign∧mN (r+r) aF≤0∧st≤n∧n≤1500∧d<n
instance (aF:Rat) (st n d:Int) (r:Rat):Decidable (az4 aF st n d r):=inferInstanceAs (Decidable (_∧_))
open Go Go.Proofs Go.RowKit Tryz Ord
attribute [local go_sem] Oper.semAt_some
end Go.Sy
