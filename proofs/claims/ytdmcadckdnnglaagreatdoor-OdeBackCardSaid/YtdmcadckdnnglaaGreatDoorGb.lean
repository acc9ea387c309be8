/- Spans alike; unit vectors. The basis of an area. Are the tails of a solution small enough? Places of the reference. Rows of spans alike. The unit vectors of a small equation. The reference's series of unit vectors. The reference's place of a small equation. Tails fall.
-/
import Derived.Test.YtdmcadckdnnglaaGreatDoorYa
import Derived.Test.YtdmcadckdnnglaaGreatDoorWb
set_option linter.unusedVariables false
set_option linter.unusedSimpArgs false
namespace Go.Sy
open Go Go.Proofs Tryz Ord
def ai7:Tr:=.need (.make [(.slice none 0 0),(.bool false),(.slice none 0 0)] 56 (.u 0 0) (.u 0 0)) (.makeSlice 40 (tT 6) (tT 6)) 40 false (.need (.call 68 [(WK 1)] [(some 3)]) (.call ⟨.value (.func 68),#[(.const (I3 1))],#[2]⟩) 39 true (.need (.idx 2 (.u 1 0)) (.indexAddr 40 (tT 8) (tT 9)) 0 false (.need (.strow 2 3 (.u 1 0) 0 [(.u 3 0),(.u 3 1),(.u 3 2)]) (.store 39 (tT 11) (tT 10)) 0 false (.ret [(.one (.c (.sr 3 4)))]))))
theorem Wg:aN prog f266 (fun _=>none) [.v none, .v none]=ai7:=by kernel_rfl
def bG (n i:Nat):List Rat:=(List.replicate n 0).set i 1
theorem Wh (n i:Nat):aX (aX aI.Sub) ((List.replicate n z3).set i (qC 1)) ((bG n i).map qC):=by
 rw [bG,List.map_set,List.map_replicate];exact xF ⟨aI.Sub.same,aI.Sub.same,aI.Sub.same,trivial⟩ _ (sZ eV n)
theorem Zc (n i:Nat) (hi:i<n) (hn:n≤64):aK prog 266 [(.one (.int .i64 n):aG),(.one (.int .i64 i):aG)] (.ret [.one (sQ (bG n i))]):=by
 refine aD (args:=[.v none, .v none]) (ins:=[.v (.one (.int .i64 n)), .v (.one (.int .i64 i))]) (hints:=(fun _=>none)) fo (by kernel_rfl) func266 ⟨rfl,rfl,trivial⟩ ?_;rw [Wg];dsimp only [List.map,In.env,aA,aB];refine tI (n:=n) (m:=n) (us:=List.replicate n z3) rfl rfl rfl (Nat.le_refl _) (by omega) (by simp only [maxLen];omega) ?_;dsimp only [aA,aB];refine aC (iV 1 (by omega) (by omega)) rfl ?_;dsimp only [aA,aB];refine nY rfl rfl (by omega) (by rw [List.length_replicate];omega) ?_;refine Fv (ts:=List.replicate n z3) (us:=(List.replicate n z3).set i (qC 1)) rfl rfl (by omega) (cells:=z3) (by rw [Int.toNat_natCast,List.getElem?_replicate,if_pos (by omega)]) (by rw [Int.toNat_natCast];rfl) ?_;dsimp only [aA,aB];exact eN ⟨aI.Sub.slice (Wh n i),trivial⟩
open Go Go.Proofs Tryz Ord
def au8:Tr:=aP 43 [(W 0 0),(G4 1)] [(some 4),none] [8,9] [44,49] 87 false (bB .leq 3 13 24 3 0 4 (.ret [(W 4 0)]))
theorem Si:aN prog f58 (fun _=>none) [.v none, .v (some 4)]=au8:=by kernel_rfl
theorem Gp (n i:Nat):(bG n i).length=n:=by simp [bG]
open Go Go.Proofs Tryz Ord
def aC5:Tr:=.split (.u 8 0) (aP 133 [(W 0 0),(W 2 0),(W 7 0),(G3 3)] [(some 3)] [13,14,15,16] [194,3,3,39] 39 false (aP 38 [(G3 9),(G3 4)] [none] [17,18] [39,39] 3 true (bB .gtr 3 19 0 10 0 4 (.split (.u 11 0) (.ret [(tF false)]) (bB .add 3 10 1 7 0 3 (.back 0 [lV 6 0,lV 12 0])))))) (.ret [(tF true)])
def au1:Tr:=bB .add 3 8 1 1 0 3 (.loop 0 [(.w (.one (.c (.k (.bool false))))),lK 0] (bR .lss 3 10 9 7 0 5 0 4 aC5))
theorem KX:aN prog f267 (fun _=>none) [.v none, .ref 1, .ref 1, .ref 3, .ref 3]=au1:=by kernel_rfl
def oN (b aF:Rat) (n:Nat) (r goal:Rat) (d:Nat):Bool:=(List.range (d+1)).all fun i=>decide (fS b aF n i r≤goal)
set_option maxHeartbeats 1000000 in
theorem Lv (a0 a1 a2 a3 a4:aI) (aF:Rat) (st:Int) (y a:List Rat) (b:Rat) (n d:Nat) (r goal:Rat) (B G:Nat) (C:∀ i,i≤d→qP B aF n i r) (hn:n<1099511627776) (hd:d≤n) (h0:aF≠0) (hb:Fit B b) (hB:B≤1073741824) (h64:64≤B) (hs1:∀ i,i≤d→cH aF n i r<1) (hgf:Fit G goal) (hG:G≤1073741824) (htf:∀ i,i≤d→Fit G (fS b aF n i r)):aK prog 267 [(.one (.bC (Lm [a0,a1,a2,a3,a4] aF st y a b)):aG),(.one (.bC ([.int .i64 d])):aG),(.one (.bC ([.int .i64 n])):aG),(.one (.bC (qC r)):aG),(.one (.bC (qC goal)):aG)] (.ret [.one (.bool (oN b aF n r goal d))]):=by
 refine aD (args:=[.v none, .ref 1, .ref 1, .ref 3, .ref 3]) (ins:=[.v (.one (.bC (Lm [a0,a1,a2,a3,a4] aF st y a b))), .ref ([.int .i64 d]), .ref ([.int .i64 n]), .ref (qC r), .ref (qC goal)]) (hints:=(fun _=>none)) fo (by kernel_rfl) func267 ⟨rfl,rfl,rfl,rfl,rfl,trivial⟩ ?_;rw [KX];dsimp only [List.map,In.env,aA,aB];refine vn (aE (by omega) (by omega)) rfl ?_;dsimp only [aA,aB];refine bF {i:Nat // i≤d+1∧∀ j,j<i→fS b aF n j r≤goal} (fun g=>[.one (.bool false), .one (.int .i64 g.1)]) (fun g=>d+1-g.1) ⟨0,Nat.zero_le _,fun j hj=>by omega⟩ aO.rfl (fun _=>rfl) ?_;rintro ⟨i,hi,hle⟩;dsimp only [aA,aB] at hi hle ⊢;refine vn bE rfl ?_;dsimp only [aA,aB];refine vs _ rfl (fun h3=>?_) (fun h3=>?_)
 ·refine aC (MJ a0 a1 a2 a3 a4 aF st y a b n i r B (C i (by omega)) hn (by omega) h0 hb (by omega) h64 (hs1 i (by omega))) rfl ?_;dsimp only [aA,aB];refine aC (pV _ _ G G (htf i (by omega)) hgf (by omega)) rfl ?_;dsimp only [aA,aB];refine vn eF rfl ?_;dsimp only [aA,aB];refine vs _ rfl (fun h7=>?_) (fun h7=>?_)
  ·rw [show oN b aF n r goal d=false from by
    rw [oN,List.all_eq_false];exact ⟨i,List.mem_range.2 (by omega),by rw [decide_eq_true_iff];exact fun h=>absurd (gQ.2 h) (by omega)⟩];exact aL rfl
  refine vn (aE (by omega) (by omega)) rfl ?_;dsimp only [aA,aB]
  exact aU rfl ⟨⟨i+1,by omega,fun j hj=>by
   rcases Nat.lt_or_ge j i with h | h
   ·exact hle j h
   ·rw [show j=i by omega];exact gQ.1 (by omega)⟩,aO.rfl,by show d+1-(i+1)<d+1-i;omega⟩
 rw [show oN b aF n r goal d=true from by
  rw [oN,List.all_eq_true];exact fun j hj=>decide_eq_true (hle j (by rw [List.mem_range] at hj;omega))];exact aL rfl
open Go Go.Proofs Tryz Ord
def av3:Tr:=.ret [(.agg [(U 0 0),(U 0 1),(U 0 2),(U 0 0),(U 0 1),(U 0 2)])]
theorem bc4:aN prog f227 (fun _=>none) [.v (some 3)]=av3:=by kernel_rfl
theorem aY4 (a:Rat):aK prog 227 [(qT a:aG)] (.ret [BG a a]):=by
 refine aD (args:=[.v (some 3)]) (ins:=[.v (qT a)]) (hints:=(fun _=>none)) fo (by kernel_rfl) func227 ⟨rfl,trivial⟩ ?_;rw [bc4];dsimp only [List.map,In.env,aA,aB];exact aL rfl
open Go Go.Proofs Tryz Ord
open Go Go.Proofs Tryz Ord
theorem VR (n l:Nat):∀ q∈bG n l,Bd (dQ 999) 999 q:=fun q hq=>by
 rcases List.mem_or_eq_of_mem_set hq with h | rfl
 ·rw [(List.mem_replicate.1 h).2];exact Bd.zero
 ·exact Bd.one (by omega)
section
variable {E:List (List Rat)} {ER:List (List RQ)} {X:Rat} {XR:RQ}
theorem SmallX.aa4 (h:SmallX E ER X XR) (hr:tZ E X) (l:Nat):ae6 (bD E X) (E.length-1) (aM E X) (bG (E.length-1) l) (dX X) sM (dQ 999) 999 101:=by
 obtain ⟨h2,h5,hld,_⟩:=hr.facts;have hm:=h.UN;obtain ⟨p,hp,hp0⟩:=vP hld (by omega);exact ⟨wP X,qY _,ai3,by omega,by omega,hm,(hm p (List.mem_of_getElem? hp)).2 _ (List.mem_of_getElem? hp0),hld,VR _ _,by rw [bD,List.length_map];omega⟩
theorem SmallX.stU (h:SmallX E ER X XR) (hr:tZ E X) (l:Nat) {N:Nat} (hN:N≤4096) (h8:8≤N):gP (bN N) (bD E X) (E.length-1) (aM E X) (bG (E.length-1) l) N:=by
 have h5:=hr.facts.2.1;exact Pg (h.aa4 hr l) (by omega) (by omega) (az7 h.xb hN _ (by omega))
def Tl:Nat:=bN 4096
theorem SmallX.Hw (h:SmallX E ER X XR) (hr:tZ E X) (l:Nat):gP Tl (bD E X) (E.length-1) (aM E X) (bG (E.length-1) l) 4096:=h.stU hr l (by omega) (by omega)
end
open Go Go.Proofs Tryz Ord
section
variable {E:List (List Rat)} {ER:List (List RQ)} {X:Rat} {XR:RQ}
end
open Go Go.Proofs Tryz Ord
open Go Go.Proofs Tryz Ord
theorem qR {x y p q:Rat} (hp:0<p) (hq:0<q) (h:x*q≤y*p):x/p≤y/q:=by
 have hp0:p≠0:=by grind
 have hq0:q≠0:=by grind
 have h1:x/p*p=x:=Rat.div_mul_cancel hp0;have h2:y/q*q=y:=Rat.div_mul_cancel hq0;refine Rat.le_of_mul_le_mul_left (c:=p*q) ?_ (Rat.mul_pos hp hq);have e1:p*q*(x/p)=x*q:=by rw [show p*q*(x/p)=x/p*p*q by grind,h1]
 have e2:p*q*(y/q)=y*p:=by rw [show p*q*(y/q)=y/q*q*p by grind,h2]
 rw [e1,e2];exact h
theorem mJ {x p:Rat} (hx:0≤x) (hp:0<p):0≤x/p:=by
 have:=qR (x:=0) (y:=x) hp hp (by rw [Rat.zero_mul];exact Rat.mul_nonneg hx (by grind))
 rwa [show (0:Rat)/p=0 by grind] at this
theorem Gi (z:Int):∀ d:Nat,bL (z+1) d*(z+1-d)=bL z d*(z+1)
 | 0=>by simp [bL]
 | d+1=>by
   have ih:=Gi z d
   rw [bL,bL,ih,show bL z d*(z+1)*(z+1-((d+1:Nat):Int))=bL z d*(z-d)*(z+1) by
    rw [show z+1-((d+1:Nat):Int)=z-d by omega,Int.mul_assoc,Int.mul_assoc,Int.mul_comm (z+1)]]
theorem xI {n:Nat}:∀ d:Nat,d≤n→0≤bL (n:Int) d
 | 0,_=>by simp [bL]
 | d+1,h=>by
   rw [bL];exact Int.mul_nonneg (xI d (by omega)) (by omega)
def HG (aF:Rat) (n d:Nat) (r:Rat):Rat:=((bL n d:Int):Rat)*r^(n-d)/aF^n
theorem MI {aF r:Rat} {n d:Nat} (h0:0<aF) (hd:d≤n):HG aF (n+1) d r=HG aF n d r*cH aF n d r:=by
 have hp:aF^n≠0:=by have:=Rat.pow_pos (n:=n) h0;grind
 have hq:aF≠0:=by grind
 have hz:((((n:Int)+1-d:Int)):Rat)≠0:=Pj (by omega)
 have e:(((bL ((n+1:Nat):Int) d:Int)):Rat)*((((n:Int)+1-d:Int)):Rat)=((bL n d:Int):Rat)*((((n:Int)+1:Int)):Rat):=by
  rw [←Rat.intCast_mul,←Rat.intCast_mul,←Gi];rfl
 unfold HG cH;rw [show n+1-d=(n-d)+1 by omega,Rat.pow_succ,Rat.pow_succ];generalize (((bL ((n+1:Nat):Int) d:Int)):Rat)=f1 at *;generalize ((bL n d:Int):Rat)=f0 at *;generalize ((((n:Int)+1-d:Int)):Rat)=z at *;generalize ((((n:Int)+1:Int)):Rat)=w at *;generalize aF^n=p at *;generalize r^(n-d)=q at *;have e2:f1=f0*w/z:=by grind
 rw [e2];grind
theorem DN {aF r:Rat} {n d:Nat} (h0:0<aF) (hr:0≤r) (hd:d≤n):cH aF ((n+1:Nat):Int) d r≤cH aF n d r∧0≤cH aF n d r:=by
 have hz1:(0:Rat)<((((n+1:Nat):Int)+1-d:Int):Rat):=Rat.intCast_pos.2 (by omega);have hz0:(0:Rat)<(((n:Int)+1-d:Int):Rat):=Rat.intCast_pos.2 (by omega);have hq:=mJ hr h0;refine ⟨?_,?_⟩
 ·unfold cH;refine Rat.mul_le_mul_of_nonneg_right (qR hz1 hz0 ?_) hq;rw [←Rat.intCast_mul,←Rat.intCast_mul];refine Rat.intCast_le_intCast.2 ?_
  have h1:(((n+1:Nat):Int)+1)*((n:Int)+1-d)=((n:Int)+2)*((n:Int)+1)-((n:Int)+2)*d:=by
   rw [show ((n+1:Nat):Int)+1=(n:Int)+2 by omega,Int.mul_sub]
  have h2:((n:Int)+1)*(((n+1:Nat):Int)+1-d)=((n:Int)+2)*((n:Int)+1)-((n:Int)+1)*d:=by
   rw [show ((n+1:Nat):Int)+1=(n:Int)+2 by omega,Int.mul_sub,Int.mul_comm ((n:Int)+1) ((n:Int)+2)]
  rw [h1,h2];have h3:((n:Int)+2)*d=((n:Int)+1)*d+d:=by rw [show (n:Int)+2=(n:Int)+1+1 by omega,Int.add_mul ((n:Int)+1) 1,Int.one_mul]
  omega
 ·unfold cH;exact Rat.mul_nonneg (mJ (Rat.intCast_nonneg.2 (by omega)) hz0) hq
theorem Di {b aF r:Rat} {n d:Nat} (hb:0≤b) (h0:0<aF) (hr:0≤r) (hd:d≤n) (h1:cH aF n d r<1):fS b aF (n+1) d r≤fS b aF n d r∧cH aF ((n+1:Nat):Int) d r<1:=by
 obtain ⟨hs,hs0⟩:=DN (d:=d) h0 hr hd;have hu:=MI (r:=r) h0 hd;have hu0:0≤HG aF n d r:=mJ (Rat.mul_nonneg (Rat.intCast_nonneg.2 (xI d hd)) (Rat.pow_nonneg hr)) (Rat.pow_pos h0);have hbu:=Rat.mul_nonneg hb hu0;refine ⟨?_,by grind⟩;have t1:fS b aF (n+1) d r=b*HG aF (n+1) d r/(((1:Int):Rat)-cH aF ((n+1:Nat):Int) d r):=rfl;have t0:fS b aF n d r=b*HG aF n d r/(((1:Int):Rat)-cH aF n d r):=rfl;rw [t1,t0,hu];have one:((1:Int):Rat)=1:=by decide +kernel
 rw [one];generalize cH aF ((n+1:Nat):Int) d r=s1 at *;generalize cH aF n d r=s0 at *;generalize HG aF n d r=u at *;refine qR (by grind) (by grind) ?_
 have k1:b*(u*s0)≤b*u:=by
  have:=Rat.mul_le_mul_of_nonneg_left (a:=s0) (b:=1) (c:=b*u) (by grind) hbu
  grind
 have k2:0≤1-s0:=by grind
 have k3:=Rat.mul_le_mul_of_nonneg_right k1 k2;have k4:=Rat.mul_le_mul_of_nonneg_left (a:=1-s0) (b:=1-s1) (c:=b*u) (by grind) hbu
 grind
end Go.Sy
