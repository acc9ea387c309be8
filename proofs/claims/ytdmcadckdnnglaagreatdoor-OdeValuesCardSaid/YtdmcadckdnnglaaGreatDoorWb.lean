/- Part. -/
import Derived.Test.YtdmcadckdnnglaaGreatDoorVb
set_option linter.all false
namespace Go.Sy
open Go Go.Proofs Tryz Ord
def aF8:Tr:=aW .add 3 12 1 1 0 3 (aW .add 3 14 1 1 0 3 (bO .sub 3 15 16 5 0 2 0 3 (aJ 120 [(W 4 0),(W 6 0)] [(some 3),none] [13,17] [2,2] 90 false (aJ 207 [(G3 3),(.agg [(U 0 5),(U 0 6),(U 0 7)])] [(some 3)] [22,24] [39,39] 39 true (aJ 36 [(G3 7),(G3 9)] [(some 3)] [21,25] [39,39] 39 true (.ret [(G3 10)]))))))
theorem Wz:aL prog f131 (fun _=>none) [.v (some 9), .v none, .v none, .v (some 3)]=aF8:=by kernel_rfl
def ai1:Tr:=.need (.prim [(W 0 0)] none) (.nilCheck (tT 34)) 0 false (.need (.prim [(W 19 0)] none) (.fieldAddr 266 (tT 35) 0) 0 false (dR 20 0 (some 9) 185 36 (aJ 131 [(.agg [(U 21 0),(U 21 1),(U 21 2),(U 21 3),(U 21 4),(U 21 5),(U 21 6),(U 21 7),(U 21 8)]),(W 1 0),(W 2 0),(G3 3)] [(some 3)] [37,38,39,40] [185,3,3,39] 39 false (aJ 167 [(G3 18),(G3 22)] [(some 3)] [33,41] [39,39] 39 true (aJ 207 [(G3 17),(G3 23)] [(some 3)] [32,42] [39,39] 39 true (.ret [(G3 24)]))))))
def aF3:Tr:=aJ 203 [(G3 11),(W 1 0)] [(some 3)] [23,24] [39,3] 39 true (aJ 207 [(G3 7),(G3 12)] [(some 3)] [18,25] [39,39] 39 true (.need (.prim [(W 0 0)] none) (.nilCheck (tT 27)) 0 false (.need (.prim [(W 14 0)] none) (.fieldAddr 266 (tT 28) 3) 0 false (dR 15 0 (some 3) 39 29 (aJ 36 [(G3 16),(G3 13)] [(some 3)] [30,31] [39,39] 39 false (.need (.call 68 [(WK 1)] [(some 3)]) (.call ⟨.value (.func 68),#[(.const (I3 1))],#[2]⟩) 39 false ai1))))))
def aF7:Tr:=bO .sub 3 14 15 1 0 2 0 3 (aJ 203 [(G3 3),(W 5 0)] [(some 3)] [13,16] [39,3] 39 false (aJ 36 [(G3 4),(G3 6)] [(some 3)] [12,17] [39,39] 39 false (.need (.prim [(W 0 0)] none) (.nilCheck (tT 19)) 0 false (.need (.prim [(W 8 0)] none) (.fieldAddr 266 (tT 20) 0) 0 false (.need (.prim [(W 9 0)] none) (.fieldAddr 185 (tT 21) 1) 0 false (dR 10 0 (some 3) 39 22 aF3))))))
def aN5:Tr:=aJ 209 [(W 1 0),(W 2 0)] [(some 3)] [10,11] [3,3] 39 false aF7
theorem aj7:aL prog f133 (fun _=>none) [.v none, .v none, .v none, .v (some 3)]=aN5:=by kernel_rfl
def aT3:Tr:=aW .add 3 9 1 1 0 3 (aW .add 3 11 1 1 0 3 (bO .sub 3 12 13 5 0 2 0 3 (aJ 79 [(W 4 0),(W 6 0)] [(some 4)] [10,14] [2,2] 49 false (aJ 102 [(G4 3),(G4 0)] [(some 4)] [16,17] [49,49] 49 true (aJ 104 [(G4 7),(G4 8)] [(some 4)] [15,18] [49,49] 49 true (.ret [(G4 9)]))))))
theorem Ve:aL prog f49 (fun _=>none) [.v (some 4), .v none, .v none, .v (some 4)]=aT3:=by kernel_rfl
def aK4:Tr:=aJ 60 [(G4 15)] [(some 4)] [31] [49] 49 false (aJ 126 [(G4 1),(W 8 0)] [(some 4)] [33,34] [49,3] 49 false (aJ 104 [(G4 16),(G4 17)] [(some 4)] [32,35] [49,49] 49 true (.need (.lit 4 [[(.u 9 0),(.u 10 0),(.u 11 0),(.u 12 0)],[(.u 18 0),(.u 18 1),(.u 18 2),(.u 18 3)]]) (.buildSlice 50 2 #[(0,(tT 27)),(1,(tT 36))]) 50 false (aJ 140 [(.one (.c (.sr 4 19)))] [(some 4)] [37] [50] 49 true (aW .add 3 25 1 8 0 3 (.back 0 [lV 21 0,lV 20 0,lV 20 1,lV 20 2,lV 20 3]))))))
def ad7:Tr:=aJ 126 [(G4 1),(W 4 0)] [(some 4)] [53,54] [49,3] 49 true (aJ 102 [(G4 18),(G4 19)] [(some 4)] [52,55] [49,49] 49 true (aJ 104 [(.agg [(U 9 0),(U 10 0),(U 11 0),(U 12 0)]),(G4 20)] [(some 4)] [57,58] [49,49] 49 false (.need (.call 50 [(WK 1)] [(some 4)]) (.call ⟨.value (.func 50),#[(.const (I3 1))],#[2]⟩) 49 false (aJ 141 [(G4 22),(G4 14)] [(some 4)] [60,61] [49,49] 49 true (aJ 102 [(G4 21),(G4 23)] [(some 4)] [59,62] [49,49] 49 true (.ret [(G4 24)]))))))
def aQ9:Tr:=bO .lss 3 22 23 8 0 2 0 4 (.split (.u 13 0) (eN 0 0 8 0 50 28 29 (dR 14 0 (some 4) 49 30 aK4)) (aJ 49 [(G4 1),(W 4 0),(W 5 0),(G4 6)] [(some 4)] [39,40,41,42] [49,3,3,49] 49 true (aJ 103 [(W 4 0),(W 5 0)] [(some 4)] [44,45] [3,3] 49 false (bO .sub 3 48 49 4 0 5 0 3 (aJ 126 [(G4 6),(W 16 0)] [(some 4)] [47,50] [49,3] 49 false (aJ 104 [(G4 15),(G4 17)] [(some 4)] [46,51] [49,49] 49 false ad7))))))
def aX9:Tr:=bO .sub 3 19 20 2 0 3 0 3 (.loop 0 [lV 7 0,lK 0,lN,lK 0,lN] aQ9)
theorem aj3:aL prog f51 (fun _=>none) [.v none, .v (some 4), .v none, .v none, .v none, .v none, .v (some 4)]=aX9:=by kernel_rfl
def dG (aF:Rat) (n d:Int) (r:Rat):Rat:=((n+1:Int):Rat)/((n+1-d:Int):Rat)*(r/aF)
def GP (a:List Rat) (aF:Rat) (n0:Nat):Nat→Rat
 | 0=>0
 | k+1=>lZ [GP a aF n0 k,(a.getD (n0+k) 0).abs*aF^(n0+k)] 2
def gR (b aF:Rat) (n d:Nat) (r:Rat):Rat:=b*(((bL n d:Int):Rat)*r^(n-d)/aF^n)/(((1:Int):Rat)-dG aF n d r)
abbrev ar9 (a:List aG) (aF:Rat) (st:Int):List aG:=a++qC aF ++ [.int .i64 st]
theorem Vn (a0 a1 a2 a3 a4:aG) (aF:Rat) (st:Int) (n d:Int) (r:Rat) (B:Nat) (h0:aF≠0) (hr:Fit B r) (hrho:Fit B aF) (hn1:-1099511627776≤n:=by omega) (hn2:n<1099511627776:=by omega) (hd1:-1099511627776≤d:=by omega) (hd2:d<1099511627776:=by omega) (hnd:n+1-d≠0:=by omega) (hB:B≤8589934592:=by omega):aM prog 131 [(.agg (ar9 [a0,a1,a2,a3,a4] aF st):aE),(.one (.int .i64 n):aE),(.one (.int .i64 d):aE),(qT r:aE)] (.ret [qT (dG aF n d r)]):=by
 refine bZ func131 Wz ?_;apply vn (aB) rfl;apply vn (aB) rfl;apply vn (aH) rfl;dsimp only [aD,aC];have ho:=aB9 (n+1) (n+1-d);rw [if_neg hnd,if_neg hnd] at ho;apply aA ho rfl;apply aA (sV r aF B B h0 hr hrho) rfl;apply aA (dN _ _ 128 (B+B) ((fH).div (fH)) (hr.div hrho)) rfl;exact aK rfl
theorem Sp (aF:RQ) (n d:Int) (r:RQ) (B:Nat) (h0:aF.q≠0) (hr:Fit B r.q) (hrho:Fit B aF.q) (hn1:-1099511627776≤n:=by omega) (hn2:n<1099511627776:=by omega) (hd1:-1099511627776≤d:=by omega) (hd2:d<1099511627776:=by omega) (hnd:n+1-d≠0:=by omega) (hB:B≤1073741824:=by omega):aM prog 49 [(fO aF:aE),(.one (.int .i64 n):aE),(.one (.int .i64 d):aE),(fO r:aE)] (.ret [fO (.of (dG aF.q n d r.q))]):=by
 refine bZ func49 Ve ?_;apply vn (aB) rfl;apply vn (aB) rfl;apply vn (aH) rfl;dsimp only [aD,aC];apply aA (EM (n+1) (n+1-d) hnd) rfl;apply aA (xZ r aF B B h0 hr hrho) rfl;apply aA (eS (.of (((n+1:Int):Rat)/((n+1-d:Int):Rat))) (.of (r.q/aF.q)) 128 (B+B) ((fH).div (fH)) (hr.div hrho)) rfl;exact aK rfl
theorem Dc {x:Rat} (h:x<1):((1:Int):Rat)-x≠0:=fun e=>by
 have:x=1:=by grind
 rw [this] at h;exact absurd h (by decide)
structure nL (B:Nat) (aF:Rat) (n d:Nat) (r:Rat):Prop where
 ff:∀ j,j≤d→Fit B ((bL n j:Int):Rat)
 fr:∀ j,j≤2*n+1→Fit B (r^j)
 fo:∀ j,j≤2*n+1→Fit B (aF^j)
theorem nL.r1 {B:Nat} {aF:Rat} {n d:Nat} {r:Rat} (h:nL B aF n d r):Fit B r:=by have:=h.fr 1 (by omega);rwa [Rat.pow_succ,Rat.pow_zero,Rat.one_mul] at this
theorem nL.o1 {B:Nat} {aF:Rat} {n d:Nat} {r:Rat} (h:nL B aF n d r):Fit B aF:=by have:=h.fo 1 (by omega);rwa [Rat.pow_succ,Rat.pow_zero,Rat.one_mul] at this
theorem nL.sh {B:Nat} {aF:Rat} {n d:Nat} {r:Rat} (h:nL B aF n d r) (hn:n<4611686018427387904) (hd:d<4611686018427387904):Fit (128+(B+B)) (dG aF n d r):=
 ((fH (n:=(n:Int)+1)).div (fH (n:=(n:Int)+1-d))).mul (h.r1.div h.o1)
abbrev Pd (ar:List aG) (aF:Rat) (st:Int) (y a:List Rat) (b:Rat):List aG:=(ar++qC aF ++ [.int .i64 st]) ++ [sQ y,sQ a]++qC b
set_option maxHeartbeats 1000000 in
theorem Ph (a0 a1 a2 a3 a4:aG) (aF:Rat) (st:Int) (y a:List Rat) (b:Rat) (n d:Nat) (r:Rat) (B:Nat) (C:nL B aF n d r) (h0:aF≠0) (hb:Fit B b) (hs1:dG aF n d r<1) (hn:n<1099511627776:=by omega) (h64:64≤B:=by omega) (hd:d≤n:=by omega) (hB:B≤2147483648:=by omega):aM prog 133 [(.one (.bU (Pd [a0,a1,a2,a3,a4] aF st y a b)):aE),(.one (.int .i64 n):aE),(.one (.int .i64 d):aE),(qT r:aE)] (.ret [qT (gR b aF n d r)]):=by
 refine bZ func133 aj7 ?_;have hff:=C.ff d (bC _);have hfr:=C.fr (n-d) (by omega);have hfo:=C.fo n (by omega);have hsh:=C.sh (by omega) (by omega);have hp0:=tG h0 n;apply aA (oG (n:Int) d B h64 (fun j hj=>C.ff j hj)) rfl;apply vn (aH) rfl;dsimp only [aD,aC];rw [show (n:Int)-(d:Int)=((n-d:Nat):Int) by omega];apply aA (jW r (n-d) B (fun j hj=>C.fr j (by omega))) rfl;apply aA (dN _ _ B B hff hfr) rfl;apply vn OD rfl;dsimp only [aD,aC];apply vn (tD Pk (by decide)) rfl;apply vn (tD al9 (by decide)) rfl;apply vn (bJ tA (by decide) (by simp) (.inl rfl)) rfl;dsimp only [aD,aC];apply aA (jW aF n B (fun j hj=>C.fo j (by omega))) rfl;apply aA (sV _ _ (B+B) B hp0 (hff.mul hfr) hfo) rfl;apply vn OD rfl;dsimp only [aD,aC];apply vn (tD YH (by decide)) rfl;apply vn (bJ tA (by decide) (by simp) (.inl rfl)) rfl;apply aA (dN _ _ B (B+B+B) hb ((hff.mul hfr).div hfo)) rfl;dsimp only [aD,aC];apply aA (nQ 1) rfl;apply vn OD rfl;apply vn (tD Pk (by decide)) rfl;dsimp only [aD,aC];apply vn (bJ at7 (by decide) (by simp) (.inl rfl)) rfl;apply aA (Vn a0 a1 a2 a3 a4 aF st n d r B h0 C.r1 C.o1) rfl;apply aA (HB _ _ 64 (128+(B+B)) (Fit.int (by omega) (by omega)) hsh) rfl;dsimp only [aD,aC];apply aA (sV _ _ (B+(B+B+B)) (64+(128+(B+B))+1) (Dc hs1) (hb.mul ((hff.mul hfr).div hfo)) ((Fit.int (by omega) (by omega)).sub hsh)) rfl;exact aK rfl
set_option maxHeartbeats 1000000 in
theorem aq8 (a:List RQ) (aF:RQ) (st W n d:Nat) (r:RQ) (B:Nat) (C:nL B aF.q n d r.q) (hst:st≤n) (hW:W≤st) (hal:st≤a.length) (hal2:a.length<1099511627776) (haf:∀ x∈a,Fit B x.q) (hn:n<1073741824) (hd:d≤n) (h0:aF.q≠0) (hB:B≤536870912) (h64:64≤B) (hs1:dG aF.q n d r.q<1):aM prog 51 [(.one (sR a):aE),(fO aF:aE),(.one (.int .i64 st):aE),(.one (.int .i64 W):aE),(.one (.int .i64 n):aE),(.one (.int .i64 d):aE),(fO r:aE)] (.ret [fO (.of (gR (GP (a.map RQ.q) aF.q (st-W) W) aF.q n d r.q))]):=by
 refine bZ func51 aj3 ?_;have hff:=C.ff d (bC _);have hfr:=C.fr (n-d) (by omega);have hfo:=C.fo n (by omega);have hsh:=C.sh (by omega) (by omega);have hp0:=tG h0 n
 have haq:∀ x∈a.map RQ.q,Fit B x:=fun x hx=>by
  obtain ⟨y,hy,rfl⟩:=gJ.1 hx;exact haf y hy
 have fb:∀ k,k≤W→Fit (B+B) (GP (a.map RQ.q) aF.q (st-W) k):=by
  intro k
  induction k with
  | zero=>exact fun _=>Fit.zero (by omega)
  | succ k ih=>
    intro hk;rw [GP];refine rX (fun x hx=>?_) 2 (by simp);simp only [List.mem_cons,List.not_mem_nil,or_false] at hx;rcases hx with rfl | rfl
    ·exact ih (by omega)
    ·exact (gY (lW haq _)).mul (C.fo _ (by omega))
 apply vn (aH) rfl
 refine bB {g:Nat×RQ // g.1≤W∧g.2.q=GP (a.map RQ.q) aF.q (st-W) g.1} (fun g=>(.one (.int .i64 ((st-W+g.1.1:Nat):Int)):aE)::(rC g.1.2).map .one) (fun g=>W-g.1.1) ⟨(0, .nil),bV _,rfl⟩ (by
  have e:(st:Int)-(W:Int)=((st-W+0:Nat):Int):=by omega
  rw [e];exact ⟨aE.Sub.same,eI.1,eI.2.1,eI.2.2.1,eI.2.2.2.1,trivial⟩) (fun _=>rfl) ?_
 rintro ⟨⟨k,b⟩,hk,hb⟩;dsimp only [aD,aC,List.map] at hk hb ⊢;apply vn aZ rfl;refine vs _ rfl ?_ ?_<;>intro h3
 ·obtain ⟨x,hx⟩:∃ x,a[st-W+k]? = some x:=⟨_,bI (by omega)⟩
  have hfx:=gY (haf x (cI hx));have hfk:=C.fo (st-W+k) (by omega);have hbf:Fit (B+B) b.q:=by rw [hb];exact fb k hk
  apply vn (aV yW hx (Int.toNat_natCast (st-W+k))) rfl;apply vn (bJ mR (by decide) (by simp) (.inl rfl)) rfl;dsimp only [aD,aC];apply aA (sY x) rfl;apply aA (lS aF B (by omega) C.o1 (st-W+k) (by omega) (fun j hj=>C.fo j (by omega))) rfl;apply aA (eS (.of x.q.abs) (.of (aF.q^(st-W+k))) B B hfx hfk) rfl;dsimp only [aD,aC];apply bP (us:=rR [b, .of (x.q.abs*aF.q^(st-W+k))]) rfl
  apply aA (Mh [b, .of (x.q.abs*aF.q^(st-W+k))] (B+B) (fun z hz=>by
   simp only [List.mem_cons,List.not_mem_nil,or_false] at hz;rcases hz with rfl | rfl
   ·exact hbf
   ·exact hfx.mul hfk) (by omega) (by omega) (by simp)) rfl
  apply vn (aB) rfl
  exact aR rfl ⟨⟨(k+1,nK [b, .of (x.q.abs*aF.q^(st-W+k))] 2),by dsimp only;omega,by
   dsimp only;rw [vX,GP,←hb,getD_some hx];rfl⟩,aN.of_eq rfl,by show W-(k+1)<W-k;omega⟩
 obtain rfl:k=W:=by omega
 have hbf:Fit (B+B) b.q:=by rw [hb];exact fb k hk
 apply aA (Sp aF n d r B h0 C.r1 C.o1) rfl;apply aA (nH (n:Int) d B (fun j hj=>C.ff j hj) h64) rfl;apply vn (aH) rfl;dsimp only [aD,aC];rw [show (n:Int)-(d:Int)=((n-d:Nat):Int) by omega];apply aA (lS r B (by omega) C.r1 (n-d) (by omega) (fun j hj=>C.fr j (by omega))) rfl;apply aA (eS (.of ((bL n d:Int):Rat)) (.of (r.q^(n-d))) B B hff hfr) rfl;apply aA (lS aF B (by omega) C.o1 n (by omega) (fun j hj=>C.fo j (by omega))) rfl;dsimp only [aD,aC];apply aA (xZ (.of (((bL n d:Int):Rat)*r.q^(n-d))) (.of (aF.q^n)) (B+B) B hp0 (hff.mul hfr) hfo) rfl;apply aA (eS b (.of (((bL n d:Int):Rat)*r.q^(n-d)/aF.q^n)) (B+B) (B+B+B) hbf ((hff.mul hfr).div hfo)) rfl;apply aA (gN 1) rfl;dsimp only [aD,aC];apply aA (CQ (.of ((1:Int):Rat)) (.of (dG aF.q n d r.q)) 64 (128+(B+B)) (Fit.int (by omega) (by omega)) hsh) rfl;apply aA (xZ (.of (b.q*(((bL n d:Int):Rat)*r.q^(n-d)/aF.q^n))) (.of (((1:Int):Rat)-dG aF.q n d r.q)) (B+B+(B+B+B)) (64+(128+(B+B))+1) (Dc hs1) (hbf.mul ((hff.mul hfr).div hfo)) ((Fit.int (by omega) (by omega)).sub hsh)) rfl;rw [show (RQ.of (b.q*(((bL n d:Int):Rat)*r.q^(n-d)/aF.q^n))).q/(RQ.of (((1:Int):Rat)-dG aF.q n d r.q)).q=gR (GP (a.map RQ.q) aF.q (st-k) k) aF.q n d r.q by rw [gR,←hb];rfl];exact aK rfl
open Go Go.Proofs Go.RowKit Tryz Ord
attribute [local go_sem] Oper.semAt_some
abbrev XE (e:Int):Value:=.iface 261 (.agg #[.int .i64 e])
theorem Fx:∃ fs,prog.underlying 261=some (.struct fs):=by
 have hd:(prog.underlying 261).any (fun d=>match d with | .struct _=>true | _=>false)=true:=by kernel_rfl
 cases hu:prog.underlying 261 with
 | none=>rw [hu] at hd;cases hd
 | some d=>
   rw [hu] at hd;cases d<;>first | (cases hd;done) | exact ⟨_,rfl⟩
theorem Nl (e:Int) (T:TypeId) (w:World):(Instr.typeAssert (XE e) T 261 true).run prog w = .ok (.tuple #[.agg #[.int .i64 e], .bool true]) w:=by
 obtain ⟨fs,hu⟩:=Fx;simp [Instr.typeAssert,run_underlying hu]
set_option maxRecDepth 100000 in
theorem Fz (b:Nat) (e:Int) (w:World) (hb:w.heap[b]? = some (.cells #[.int .i64 0] 55 (0,0))) :
  CallsD prog 201 #[.pointer (some ⟨b,0,none⟩)] (.panicking [{ v:=XE e,recovered:=false }]) w fun r u' w'=>r = .returned (.tuple #[])∧u' = .panicking [{ v:=XE e,recovered:=true }]∧w.grownBy w' (some b)∧w'.heap[b]? = some (.cells #[.int .i64 e] 55 (0,0)):=by
 have cb:w.cell? ⟨b,0,none⟩=some (.int .i64 0):=aI hb rfl;have fb:w.frozen? ⟨b,0,none⟩=false:=by simp [World.frozen?,hb]
 refine callsD_of_wpS func201 rfl fun c₀ cs hu=>?_;apply wpS_seq;apply wpS_region;simp [wpOpsS,go_sem,recoverD,hu,ntmps201,Exit.thenS];apply wpS_seq;apply wpS_region;simp [wpOpsS,go_sem,Exit.thenS];refine wpS_cond (t:=true) (by simp [Act.eval,Array.replicate]) ?_;simp only [if_true];have hlt:b<w.heap.size:=(dQ.1 hb).1;have hb1:(w.alloc (.cells #[.int .i64 e] 261)).heap[b]? = some (.cells #[.int .i64 0] 55 (0,0)):=by rw [heap_alloc_old _ _ _ hlt];exact hb
 have cb1:(w.alloc (.cells #[.int .i64 e] 261)).cell? ⟨b,0,none⟩=some (.int .i64 0):=aI hb1 rfl;have fb1:(w.alloc (.cells #[.int .i64 e] 261)).frozen? ⟨b,0,none⟩=false:=by simp [World.frozen?,hb1]
 refine wpS_of_wp ?_;have hta:=fun T w=>Nl e T w;simp only [Array.replicate_succ,Array.replicate_zero,List.push_toArray,List.append_toArray,List.nil_append,List.cons_append,List.setIfInBounds_toArray,List.set_cons_zero,List.set_cons_succ]
 go_wp2
 rw [setCell_eq_setRow w b 0 _ _ _ _ hb,show (#[Value.int .i64 0].setIfInBounds 0 (.int .i64 e)) = #[Value.int .i64 e] from rfl];have hs:(w.setRow b #[.int .i64 e]).heap.size=w.heap.size:=by simp [World.setRow]
 have hg:w.grownBy ((w.setRow b #[.int .i64 e]).alloc (.cells #[.int .i64 e] 261)) (some b):=by
  refine ⟨rfl,rfl,rfl,by rw [World.size_alloc,hs];omega,fun k hk hne=>?_⟩;rw [heap_alloc_old _ _ _ (by rw [hs];exact hk),setRow_other _ _ _ _ (fun e=>hne (by rw [e]))]
 have hh:((w.setRow b #[.int .i64 e]).alloc (.cells #[.int .i64 e] 261)).heap[b]? = some (.cells #[.int .i64 e] 55 (0,0)):=by
  rw [heap_alloc_old _ _ _ (by rw [hs];exact hlt)];exact setRow_heap _ _ _ _ _ _ hb
 generalize (w.setRow b #[.int .i64 e]).alloc (.cells #[.int .i64 e] 261)=W at *;cases c₀
 simp_all [bodyPostS,results,show f201.results = #[] from rfl]
theorem MQ (g:FuncId) (caps:Array Value) (w:World) (e:Int) (Pw:World→Prop) (eg:∀ args w,(callFunc g args).run prog w = .ok (.enter g args) w)
  (h:Calls prog g caps (w.alloc (.cells #[.int .i64 0] 55)) fun r w'=>r = .panicked [{ v:=XE e,recovered:=false }]∧w'.heap[w.heap.size]? = some (.cells #[.int .i64 0] 55 (0,0))∧Pw w') :
  Calls prog 121 #[.func (.func g) #[] caps] w fun r w'=>r = .returned (.int .i64 e)∧∃ w1,Pw w1∧w1.grownBy w' (some w.heap.size):=by
 have hmf:∀ (fn:Fn) (first cap:Array Value) (w:World),(Instr.makeFunc fn first cap).run prog w = .ok (.func fn first cap) w:=fun _ _ _ _=>rfl
 go_enter_defers func121,ntmps121
 go_wp2
 refine h.mono ?_;rintro r w1 ⟨rfl,hb,hP⟩;refine leaves_cons (f:=201) (args:=#[.pointer (some ⟨w.heap.size,0,none⟩)]) (by simp) (by simp [go_sem]) ?_;refine (Fz w.heap.size e _ hb).mono ?_;rintro r u' w2 ⟨rfl,rfl,hg,hb2⟩;have cb2:w2.cell? ⟨w.heap.size,0,none⟩=some (.int .i64 e):=aI hb2 rfl;simp [Leaves,settle,results,show f121.results = #[.cell 2 55] from rfl,go_sem,cb2];exact ⟨w1,hP,hg⟩
end Go.Sy
namespace Go.Sy
open Go Go.Proofs Go.RowKit Tryz Ord
attribute [local go_sem] Oper.semAt_some
theorem bf0 {M:Nat→Prop} {w:World} {e:Int} {r:Ending} (h:uQ M w (.pan (RY e)) r):r = .panicked [{ v:=XE e,recovered:=false }]:=by
 obtain ⟨v,rfl,hv⟩:=h;rw [show v=XE e from hv.1]
end Go.Sy
namespace Go.Sy
open Go Go.Proofs Tryz Ord
def aL5 (aF:Rat) (st:Int) (n d:Int) (r:Rat):Prop:=0≤d∧d≤4∧0≤r.num.sign∧lG (r+r) aF≤0∧st≤n∧n≤1500∧d<n
instance (aF:Rat) (st n d:Int) (r:Rat):Decidable (aL5 aF st n d r):=inferInstanceAs (Decidable (_∧_))
abbrev fC (e:List (List Rat)) (c:Rat) (y:List Rat):List aG:=[eQ e]++qC c ++ [sQ y]
open Go Go.Proofs Go.RowKit Tryz Ord
attribute [local go_sem] Oper.semAt_some
end Go.Sy
