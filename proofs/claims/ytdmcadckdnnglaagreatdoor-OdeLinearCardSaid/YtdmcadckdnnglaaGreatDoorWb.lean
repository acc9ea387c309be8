/- Part. -/
import Derived.Test.YtdmcadckdnnglaaGreatDoorVb
set_option linter.all false
namespace Go.Sy
open Go Go.Proofs Tryz Ord
def az1:Tr:=bA .add 3 12 1 1 0 3 (bA .add 3 14 1 1 0 3 (bM .sub 3 15 16 5 0 2 0 3 (aM 120 [(W 4 0),(W 6 0)] [(some 3),none] [13,17] [2,2] 90 false (aM 207 [(G3 3),(.agg [(U 0 5),(U 0 6),(U 0 7)])] [(some 3)] [22,24] [39,39] 39 true (aM 36 [(G3 7),(G3 9)] [(some 3)] [21,25] [39,39] 39 true (.ret [(G3 10)]))))))
theorem Qm:aL prog f131 (fun _=>none) [.v (some 9), .v none, .v none, .v (some 3)]=az1:=by kernel_rfl
def Wk:Tr:=.need (.prim [(W 0 0)] none) (.nilCheck (tT 34)) 0 false (.need (.prim [(W 19 0)] none) (.fieldAddr 266 (tT 35) 0) 0 false (eS 20 0 (some 9) 185 36 (aM 131 [(.agg [(U 21 0),(U 21 1),(U 21 2),(U 21 3),(U 21 4),(U 21 5),(U 21 6),(U 21 7),(U 21 8)]),(W 1 0),(W 2 0),(G3 3)] [(some 3)] [37,38,39,40] [185,3,3,39] 39 false (aM 167 [(G3 18),(G3 22)] [(some 3)] [33,41] [39,39] 39 true (aM 207 [(G3 17),(G3 23)] [(some 3)] [32,42] [39,39] 39 true (.ret [(G3 24)]))))))
def ay3:Tr:=aM 203 [(G3 11),(W 1 0)] [(some 3)] [23,24] [39,3] 39 true (aM 207 [(G3 7),(G3 12)] [(some 3)] [18,25] [39,39] 39 true (.need (.prim [(W 0 0)] none) (.nilCheck (tT 27)) 0 false (.need (.prim [(W 14 0)] none) (.fieldAddr 266 (tT 28) 3) 0 false (eS 15 0 (some 3) 39 29 (aM 36 [(G3 16),(G3 13)] [(some 3)] [30,31] [39,39] 39 false (.need (.call 68 [(WK 1)] [(some 3)]) (.call ⟨.value (.func 68),#[(.const (I3 1))],#[2]⟩) 39 false Wk))))))
def ax2:Tr:=bM .sub 3 14 15 1 0 2 0 3 (aM 203 [(G3 3),(W 5 0)] [(some 3)] [13,16] [39,3] 39 false (aM 36 [(G3 4),(G3 6)] [(some 3)] [12,17] [39,39] 39 false (.need (.prim [(W 0 0)] none) (.nilCheck (tT 19)) 0 false (.need (.prim [(W 8 0)] none) (.fieldAddr 266 (tT 20) 0) 0 false (.need (.prim [(W 9 0)] none) (.fieldAddr 185 (tT 21) 1) 0 false (eS 10 0 (some 3) 39 22 ay3))))))
def aA5:Tr:=aM 209 [(W 1 0),(W 2 0)] [(some 3)] [10,11] [3,3] 39 false ax2
theorem VO:aL prog f133 (fun _=>none) [.v none, .v none, .v none, .v (some 3)]=aA5:=by kernel_rfl
def eC (aH:Rat) (n d:Int) (r:Rat):Rat:=((n+1:Int):Rat)/((n+1-d:Int):Rat)*(r/aH)
def Ox (a:List Rat) (aH:Rat) (n0:Nat):Nat→Rat
 | 0=>0
 | k+1=>iK [Ox a aH n0 k,(a.getD (n0+k) 0).abs*aH^(n0+k)] 2
def qR (b aH:Rat) (n d:Nat) (r:Rat):Rat:=b*(((cF n d:Int):Rat)*r^(n-d)/aH^n)/(((1:Int):Rat)-eC aH n d r)
abbrev ar9 (a:List aE) (aH:Rat) (st:Int):List aE:=a++qC aH ++ [.int .i64 st]
theorem Qr (a0 a1 a2 a3 a4:aE) (aH:Rat) (st:Int) (n d:Int) (r:Rat) (B:Nat) (h0:aH≠0) (hr:Fit B r) (hrho:Fit B aH) (hn1:-1099511627776≤n:=by omega) (hn2:n<1099511627776:=by omega) (hd1:-1099511627776≤d:=by omega) (hd2:d<1099511627776:=by omega) (hnd:n+1-d≠0:=by omega) (hB:B≤8589934592:=by omega):aN prog 131 [(.agg (ar9 [a0,a1,a2,a3,a4] aH st):aF),(.one (.int .i64 n):aF),(.one (.int .i64 d):aF),(qT r:aF)] (.ret [qT (eC aH n d r)]):=by
 refine cM func131 Qm ?_;apply vn (aD) rfl;dsimp only [aA,aB];apply vn (aD) rfl;dsimp only [aA,aB];apply vn (aI) rfl;dsimp only [aA,aB];have ho:=aq8 (n+1) (n+1-d);rw [if_neg hnd,if_neg hnd] at ho;apply aC ho rfl;dsimp only [aA,aB];apply aC (rM r aH B B h0 hr hrho) rfl;dsimp only [aA,aB];apply aC (cY _ _ 128 (B+B) ((fV).div (fV)) (hr.div hrho)) rfl;exact aK rfl
theorem Ma {x:Rat} (h:x<1):((1:Int):Rat)-x≠0:=fun e=>by
 have:x=1:=by grind
 rw [this] at h;exact absurd h (by decide)
structure qS (B:Nat) (aH:Rat) (n d:Nat) (r:Rat):Prop where
 ff:∀ j,j≤d→Fit B ((cF n j:Int):Rat)
 fr:∀ j,j≤2*n+1→Fit B (r^j)
 fo:∀ j,j≤2*n+1→Fit B (aH^j)
theorem qS.r1 {B:Nat} {aH:Rat} {n d:Nat} {r:Rat} (h:qS B aH n d r):Fit B r:=by have:=h.fr 1 (by omega);rwa [Rat.pow_succ,Rat.pow_zero,Rat.one_mul] at this
theorem qS.o1 {B:Nat} {aH:Rat} {n d:Nat} {r:Rat} (h:qS B aH n d r):Fit B aH:=by have:=h.fo 1 (by omega);rwa [Rat.pow_succ,Rat.pow_zero,Rat.one_mul] at this
theorem qS.sh {B:Nat} {aH:Rat} {n d:Nat} {r:Rat} (h:qS B aH n d r) (hn:n<4611686018427387904) (hd:d<4611686018427387904):Fit (128+(B+B)) (eC aH n d r):=
 ((fV (n:=(n:Int)+1)).div (fV (n:=(n:Int)+1-d))).mul (h.r1.div h.o1)
abbrev MP (ar:List aE) (aH:Rat) (st:Int) (y a:List Rat) (b:Rat):List aE:=(ar++qC aH ++ [.int .i64 st]) ++ [sQ y,sQ a]++qC b
set_option maxHeartbeats 1000000 in
theorem Mk (a0 a1 a2 a3 a4:aE) (aH:Rat) (st:Int) (y a:List Rat) (b:Rat) (n d:Nat) (r:Rat) (B:Nat) (C:qS B aH n d r) (h0:aH≠0) (hb:Fit B b) (hs1:eC aH n d r<1) (hn:n<1099511627776:=by omega) (h64:64≤B:=by omega) (hd:d≤n:=by omega) (hB:B≤2147483648:=by omega):aN prog 133 [(.one (.bK (MP [a0,a1,a2,a3,a4] aH st y a b)):aF),(.one (.int .i64 n):aF),(.one (.int .i64 d):aF),(qT r:aF)] (.ret [qT (qR b aH n d r)]):=by
 refine cM func133 VO ?_;have hff:=C.ff d (bB _);have hfr:=C.fr (n-d) (by omega);have hfo:=C.fo n (by omega);have hsh:=C.sh (by omega) (by omega);have hp0:=uW h0 n;apply aC (mH (n:Int) d B h64 (fun j hj=>C.ff j hj)) rfl;dsimp only [aA,aB];apply vn (aI) rfl;dsimp only [aA,aB];rw [show (n:Int)-(d:Int)=((n-d:Nat):Int) by omega];apply aC (iV r (n-d) B (fun j hj=>C.fr j (by omega))) rfl;dsimp only [aA,aB];apply aC (cY _ _ B B hff hfr) rfl;dsimp only [aA,aB];apply vn NU rfl;dsimp only [aA,aB];apply vn (rH Ny (by decide)) rfl;dsimp only [aA,aB];apply vn (rH YI (by decide)) rfl;dsimp only [aA,aB];apply vn (bO pO (by decide) (by simp) (.inl rfl)) rfl;dsimp only [aA,aB];apply aC (iV aH n B (fun j hj=>C.fo j (by omega))) rfl;dsimp only [aA,aB];apply aC (rM _ _ (B+B) B hp0 (hff.mul hfr) hfo) rfl;dsimp only [aA,aB];apply vn NU rfl;dsimp only [aA,aB];apply vn (rH XO (by decide)) rfl;dsimp only [aA,aB];apply vn (bO pO (by decide) (by simp) (.inl rfl)) rfl;dsimp only [aA,aB];apply aC (cY _ _ B (B+B+B) hb ((hff.mul hfr).div hfo)) rfl;dsimp only [aA,aB];apply aC (mC 1) rfl;dsimp only [aA,aB];apply vn NU rfl;dsimp only [aA,aB];apply vn (rH Ny (by decide)) rfl;dsimp only [aA,aB];apply vn (bO ZV (by decide) (by simp) (.inl rfl)) rfl;dsimp only [aA,aB];apply aC (Qr a0 a1 a2 a3 a4 aH st n d r B h0 C.r1 C.o1) rfl;dsimp only [aA,aB];apply aC (KY _ _ 64 (128+(B+B)) (Fit.int (by omega) (by omega)) hsh) rfl;dsimp only [aA,aB];apply aC (rM _ _ (B+(B+B+B)) (64+(128+(B+B))+1) (Ma hs1) (hb.mul ((hff.mul hfr).div hfo)) ((Fit.int (by omega) (by omega)).sub hsh)) rfl;exact aK rfl
open Go Go.Proofs Go.RowKit Tryz Ord
attribute [local go_sem] Oper.semAt_some
abbrev UW (e:Int):Value:=.iface 261 (.agg #[.int .i64 e])
theorem EF:∃ fs,prog.underlying 261=some (.struct fs):=by
 have hd:(prog.underlying 261).any (fun d=>match d with | .struct _=>true | _=>false)=true:=by kernel_rfl
 cases hu:prog.underlying 261 with
 | none=>rw [hu] at hd;cases hd
 | some d=>
   rw [hu] at hd;cases d<;>first | (cases hd;done) | exact ⟨_,rfl⟩
theorem KQ (e:Int) (T:TypeId) (w:World):(Instr.typeAssert (UW e) T 261 true).run prog w = .ok (.tuple #[.agg #[.int .i64 e], .bool true]) w:=by
 obtain ⟨fs,hu⟩:=EF;simp [Instr.typeAssert,run_underlying hu]
set_option maxRecDepth 100000 in
theorem EJ (b:Nat) (e:Int) (w:World) (hb:w.heap[b]? = some (.cells #[.int .i64 0] 55 (0,0))) :
  CallsD prog 201 #[.pointer (some ⟨b,0,none⟩)] (.panicking [{ v:=UW e,recovered:=false }]) w fun r u' w'=>r = .returned (.tuple #[])∧u' = .panicking [{ v:=UW e,recovered:=true }]∧w.grownBy w' (some b)∧w'.heap[b]? = some (.cells #[.int .i64 e] 55 (0,0)):=by
 have cb:w.cell? ⟨b,0,none⟩=some (.int .i64 0):=aG hb rfl;have fb:w.frozen? ⟨b,0,none⟩=false:=by simp [World.frozen?,hb]
 refine callsD_of_wpS func201 rfl fun c₀ cs hu=>?_;apply wpS_seq;apply wpS_region;simp [wpOpsS,go_sem,recoverD,hu,ntmps201,Exit.thenS];apply wpS_seq;apply wpS_region;simp [wpOpsS,go_sem,Exit.thenS];refine wpS_cond (t:=true) (by simp [Act.eval,Array.replicate]) ?_;simp only [if_true];have hlt:b<w.heap.size:=(dH.1 hb).1;have hb1:(w.alloc (.cells #[.int .i64 e] 261)).heap[b]? = some (.cells #[.int .i64 0] 55 (0,0)):=by rw [heap_alloc_old _ _ _ hlt];exact hb
 have cb1:(w.alloc (.cells #[.int .i64 e] 261)).cell? ⟨b,0,none⟩=some (.int .i64 0):=aG hb1 rfl;have fb1:(w.alloc (.cells #[.int .i64 e] 261)).frozen? ⟨b,0,none⟩=false:=by simp [World.frozen?,hb1]
 refine wpS_of_wp ?_;have hta:=fun T w=>KQ e T w;simp only [Array.replicate_succ,Array.replicate_zero,List.push_toArray,List.append_toArray,List.nil_append,List.cons_append,List.setIfInBounds_toArray,List.set_cons_zero,List.set_cons_succ]
 go_wp2
 rw [setCell_eq_setRow w b 0 _ _ _ _ hb,show (#[Value.int .i64 0].setIfInBounds 0 (.int .i64 e)) = #[Value.int .i64 e] from rfl];have hs:(w.setRow b #[.int .i64 e]).heap.size=w.heap.size:=by simp [World.setRow]
 have hg:w.grownBy ((w.setRow b #[.int .i64 e]).alloc (.cells #[.int .i64 e] 261)) (some b):=by
  refine ⟨rfl,rfl,rfl,by rw [World.size_alloc,hs];omega,fun k hk hne=>?_⟩;rw [heap_alloc_old _ _ _ (by rw [hs];exact hk),setRow_other _ _ _ _ (fun e=>hne (by rw [e]))]
 have hh:((w.setRow b #[.int .i64 e]).alloc (.cells #[.int .i64 e] 261)).heap[b]? = some (.cells #[.int .i64 e] 55 (0,0)):=by
  rw [heap_alloc_old _ _ _ (by rw [hs];exact hlt)];exact setRow_heap _ _ _ _ _ _ hb
 generalize (w.setRow b #[.int .i64 e]).alloc (.cells #[.int .i64 e] 261)=W at *;cases c₀
 simp_all [bodyPostS,results,show f201.results = #[] from rfl]
theorem Km (g:FuncId) (caps:Array Value) (w:World) (e:Int) (Pw:World→Prop) (eg:∀ args w,(callFunc g args).run prog w = .ok (.enter g args) w)
  (h:Calls prog g caps (w.alloc (.cells #[.int .i64 0] 55)) fun r w'=>r = .panicked [{ v:=UW e,recovered:=false }]∧w'.heap[w.heap.size]? = some (.cells #[.int .i64 0] 55 (0,0))∧Pw w') :
  Calls prog 121 #[.func (.func g) #[] caps] w fun r w'=>r = .returned (.int .i64 e)∧∃ w1,Pw w1∧w1.grownBy w' (some w.heap.size):=by
 have hmf:∀ (fn:Fn) (first cap:Array Value) (w:World),(Instr.makeFunc fn first cap).run prog w = .ok (.func fn first cap) w:=fun _ _ _ _=>rfl
 go_enter_defers func121,ntmps121
 go_wp2
 refine h.mono ?_;rintro r w1 ⟨rfl,hb,hP⟩;refine leaves_cons (f:=201) (args:=#[.pointer (some ⟨w.heap.size,0,none⟩)]) (by simp) (by simp [go_sem]) ?_;refine (EJ w.heap.size e _ hb).mono ?_;rintro r u' w2 ⟨rfl,rfl,hg,hb2⟩;have cb2:w2.cell? ⟨w.heap.size,0,none⟩=some (.int .i64 e):=aG hb2 rfl;simp [Leaves,settle,results,show f121.results = #[.cell 2 55] from rfl,go_sem,cb2];exact ⟨w1,hP,hg⟩
end Go.Sy
namespace Go.Sy
open Go Go.Proofs Go.RowKit Tryz Ord
attribute [local go_sem] Oper.semAt_some
theorem aF2 {M:Nat→Prop} {w:World} {e:Int} {r:Ending} (h:tA M w (.pan (Qf e)) r):r = .panicked [{ v:=UW e,recovered:=false }]:=by
 obtain ⟨v,rfl,hv⟩:=h;rw [show v=UW e from hv.1]
end Go.Sy
namespace Go.Sy
open Go Go.Proofs Tryz Ord
def az7 (aH:Rat) (st:Int) (n d:Int) (r:Rat):Prop:=0≤d∧d≤4∧0≤r.num.sign∧lS (r+r) aH≤0∧st≤n∧n≤1500∧d<n
instance (aH:Rat) (st n d:Int) (r:Rat):Decidable (az7 aH st n d r):=inferInstanceAs (Decidable (_∧_))
abbrev fC (e:List (List Rat)) (c:Rat) (y:List Rat):List aE:=[eQ e]++qC c ++ [sQ y]
open Go Go.Proofs Go.RowKit Tryz Ord
attribute [local go_sem] Oper.semAt_some
end Go.Sy
