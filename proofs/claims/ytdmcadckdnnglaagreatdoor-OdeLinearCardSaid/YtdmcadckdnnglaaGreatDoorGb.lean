/- Part. -/
import Derived.Test.YtdmcadckdnnglaaGreatDoorYa
set_option linter.all false
namespace Go.Sy
open Go Go.Proofs Tryz Ord
def ai6:Tr:=.need (.make [(.slice none 0 0),(.bool false),(.slice none 0 0)] 56 (.u 0 0) (.u 0 0)) (.makeSlice 40 (tT 6) (tT 6)) 40 false (.need (.call 68 [(WK 1)] [(some 3)]) (.call ⟨.value (.func 68),#[(.const (I3 1))],#[2]⟩) 39 true (.need (.idx 2 (.u 1 0)) (.indexAddr 40 (tT 8) (tT 9)) 0 false (.need (.strow 2 3 (.u 1 0) 0 [(.u 3 0),(.u 3 1),(.u 3 2)]) (.store 39 (tT 11) (tT 10)) 0 false (.ret [(.one (.c (.sr 3 4)))]))))
theorem VV:aL prog f266 (fun _=>none) [.v none, .v none]=ai6:=by kernel_rfl
def bU (n i:Nat):List Rat:=(List.replicate n 0).set i 1
theorem VW (n i:Nat):aU (aU aE.Sub) ((List.replicate n z3).set i (qC 1)) ((bU n i).map qC):=by
 rw [bU,List.map_set,List.map_replicate];exact xH ⟨aE.Sub.same,aE.Sub.same,aE.Sub.same,trivial⟩ _ (tL fU n)
theorem Zh (n i:Nat) (hi:i<n) (hn:n≤64):aN prog 266 [(.one (.int .i64 n):aF),(.one (.int .i64 i):aF)] (.ret [.one (sQ (bU n i))]):=by
 refine cM func266 VV ?_;refine tR (n:=n) (m:=n) (us:=List.replicate n z3) rfl rfl rfl (bB _) (by omega) (by simp only [maxLen];omega) ?_;dsimp only [aA,aB];apply aC (mC 1) rfl;dsimp only [aA,aB];refine nA rfl rfl (by omega) (by rw [List.length_replicate];omega) ?_;refine EY (ts:=List.replicate n z3) (us:=(List.replicate n z3).set i (qC 1)) rfl rfl (by omega) (cells:=z3) (by rw [Int.toNat_natCast,List.getElem?_replicate,if_pos (by omega)]) (by rw [Int.toNat_natCast];rfl) ?_;exact dK ⟨aE.Sub.slice (VW n i),trivial⟩
open Go Go.Proofs Tryz Ord
def au8:Tr:=aM 43 [(W 0 0),(G4 1)] [(some 4),none] [8,9] [44,49] 87 false (bA .leq 3 13 24 3 0 4 (.ret [(W 4 0)]))
theorem Sa:aL prog f58 (fun _=>none) [.v none, .v (some 4)]=au8:=by kernel_rfl
theorem FW (n i:Nat):(bU n i).length=n:=by simp [bU]
open Go Go.Proofs Tryz Ord
def aD0:Tr:=.split (.u 8 0) (aM 133 [(W 0 0),(W 2 0),(W 7 0),(G3 3)] [(some 3)] [13,14,15,16] [194,3,3,39] 39 false (aM 38 [(G3 9),(G3 4)] [none] [17,18] [39,39] 3 true (bA .gtr 3 19 0 10 0 4 (.split (.u 11 0) (.ret [(tF false)]) (bA .add 3 10 1 7 0 3 (.back 0 [lV 6 0,lV 12 0])))))) (.ret [(tF true)])
def au0:Tr:=bA .add 3 8 1 1 0 3 (.loop 0 [(.w (.one (.c (.k (.bool false))))),lK 0] (bM .lss 3 10 9 7 0 5 0 4 aD0))
theorem Ku:aL prog f267 (fun _=>none) [.v none, .ref 1, .ref 1, .ref 3, .ref 3]=au0:=by kernel_rfl
def oX (b aH:Rat) (n:Nat) (r goal:Rat) (d:Nat):Bool:=(List.range (d+1)).all fun i=>decide (qR b aH n i r≤goal)
set_option maxHeartbeats 1000000 in
theorem KV (a0 a1 a2 a3 a4:aE) (aH:Rat) (st:Int) (y a:List Rat) (b:Rat) (n d:Nat) (r goal:Rat) (B G:Nat) (C:∀ i,i≤d→qS B aH n i r) (hn:n<1099511627776) (hd:d≤n) (h0:aH≠0) (hb:Fit B b) (hB:B≤1073741824) (h64:64≤B) (hs1:∀ i,i≤d→eC aH n i r<1) (hgf:Fit G goal) (hG:G≤1073741824) (htf:∀ i,i≤d→Fit G (qR b aH n i r)):aN prog 267 [(.one (.bK (MP [a0,a1,a2,a3,a4] aH st y a b)):aF),(.one (.bK ([.int .i64 d])):aF),(.one (.bK ([.int .i64 n])):aF),(.one (.bK (qC r)):aF),(.one (.bK (qC goal)):aF)] (.ret [.one (.bool (oX b aH n r goal d))]):=by
 refine dvr (ins:=[.v (.one (.bK (MP [a0,a1,a2,a3,a4] aH st y a b))), .ref ([.int .i64 d]), .ref ([.int .i64 n]), .ref (qC r), .ref (qC goal)]) func267 Ku ?_;apply vn (aD) rfl;dsimp only [aA,aB];refine bF {i:Nat // i≤d+1∧∀ j,j<i→qR b aH n j r≤goal} (fun g=>[.one (.bool false), .one (.int .i64 g.1)]) (fun g=>d+1-g.1) ⟨0,bR _,fun j hj=>by omega⟩ aO.rfl (fun _=>rfl) ?_;rintro ⟨i,hi,hle⟩;dsimp only [aA,aB] at hi hle ⊢;apply vn bE rfl;dsimp only [aA,aB];refine vs _ rfl ?_ ?_<;>intro h3
 ·apply aC (Mk a0 a1 a2 a3 a4 aH st y a b n i r B (C i (by omega)) h0 hb (hs1 i (by omega)) hn h64) rfl;dsimp only [aA,aB];apply aC (wK _ _ G G (htf i (by omega)) hgf) rfl;dsimp only [aA,aB];apply vn eE rfl;dsimp only [aA,aB];refine vs _ rfl ?_ ?_<;>intro h7
  ·rw [show oX b aH n r goal d=false from by
    rw [oX,List.all_eq_false];exact ⟨i,List.mem_range.2 (by omega),by rw [decide_eq_true_iff];exact fun h=>absurd (mQ.2 h) (by omega)⟩];exact aK rfl
  apply vn (aD) rfl
  exact aR rfl ⟨⟨i+1,by omega,fun j hj=>by
   rcases Nat.lt_or_ge j i with h | h
   ·exact hle j h
   ·rw [show j=i by omega];exact mQ.1 (by omega)⟩,aO.rfl,by show d+1-(i+1)<d+1-i;omega⟩
 rw [show oX b aH n r goal d=true from by
  rw [oX,List.all_eq_true];exact fun j hj=>decide_eq_true (hle j (by rw [List.mem_range] at hj;omega))];exact aK rfl
open Go Go.Proofs Tryz Ord
def av3:Tr:=.ret [(.agg [(U 0 0),(U 0 1),(U 0 2),(U 0 0),(U 0 1),(U 0 2)])]
theorem bd3:aL prog f227 (fun _=>none) [.v (some 3)]=av3:=by kernel_rfl
theorem aG8 (a:Rat):aN prog 227 [(qT a:aF)] (.ret [Cl a a]):=by
 refine cM func227 bd3 ?_;exact aK rfl
theorem TF (E:List (List Rat)) (ER:List (List RQ)) (X:Rat) (XR:RQ) (h:SmallX E ER X XR) (hr:kV E X):aN prog 58 [(.one (eR ER):aF),(lI XR:aF)] (.ret [.one (.bool (decide ((jJ E X).2≤24)))]):=by
 refine cM func58 Sa ?_;apply aC (Gt h hr) rfl;dsimp only [aA,aB];apply vn iZ rfl;dsimp only [aA,aB];rw [show decide (((jJ E X).2:Int)≤24)=decide ((jJ E X).2≤24) by rw [decide_eq_decide];omega];exact aK rfl
open Go Go.Proofs Tryz Ord
open Go Go.Proofs Tryz Ord
theorem VI (n l:Nat):∀ q∈bU n l,Bd (eG 999) 999 q:=fun q hq=>by
 rcases List.mem_or_eq_of_mem_set hq with h | rfl
 ·rw [(List.mem_replicate.1 h).2];exact Bd.zero
 ·exact Bd.one (by omega)
section
variable {E:List (List Rat)} {ER:List (List RQ)} {X:Rat} {XR:RQ}
theorem SmallX.aa4 (h:SmallX E ER X XR) (hr:kV E X) (l:Nat):ad8 (bW E X) (E.length-1) (aZ E X) (bU (E.length-1) l) (dX X) sM (eG 999) 999 101:=by
 obtain ⟨h2,h5,hld,_⟩:=hr.facts;have hm:=h.Ze;obtain ⟨p,hp,hp0⟩:=rG hld;exact ⟨wW X,rD _,ai2,by omega,by omega,hm,(hm p (cS hp)).2 _ (cS hp0),hld,VI _ _,by rw [bW,aP];omega⟩
theorem SmallX.stU (h:SmallX E ER X XR) (hr:kV E X) (l:Nat) {N:Nat} (hN:N≤4096) (h8:8≤N):gZ (bN N) (bW E X) (E.length-1) (aZ E X) (bU (E.length-1) l) N:=by
 have h5:=hr.facts.2.1;exact OH (h.aa4 hr l) (az9 h.xb hN _)
def Tb:Nat:=bN 4096
theorem SmallX.Hg (h:SmallX E ER X XR) (hr:kV E X) (l:Nat):gZ Tb (bW E X) (E.length-1) (aZ E X) (bU (E.length-1) l) 4096:=h.stU hr l (by omega) (by omega)
end
open Go Go.Proofs Tryz Ord
section
variable {E:List (List Rat)} {ER:List (List RQ)} {X:Rat} {XR:RQ}
end
open Go Go.Proofs Tryz Ord
open Go Go.Proofs Tryz Ord
theorem uO {x y p q:Rat} (hp:0<p) (hq:0<q) (h:x*q≤y*p):x/p≤y/q:=by
 have hp0:p≠0:=by grind
 have hq0:q≠0:=by grind
 have h1:x/p*p=x:=Rat.div_mul_cancel hp0;have h2:y/q*q=y:=Rat.div_mul_cancel hq0;refine Rat.le_of_mul_le_mul_left (c:=p*q) ?_ (Rat.mul_pos hp hq);have e1:p*q*(x/p)=x*q:=by rw [show p*q*(x/p)=x/p*p*q by grind,h1]
 have e2:p*q*(y/q)=y*p:=by rw [show p*q*(y/q)=y/q*q*p by grind,h2]
 rw [e1,e2];exact h
theorem uF {x p:Rat} (hx:0≤x) (hp:0<p):0≤x/p:=by
 have:=uO (x:=0) (y:=x) hp hp (by rw [Rat.zero_mul];exact Rat.mul_nonneg hx (by grind))
 rwa [show (0:Rat)/p=0 by grind] at this
theorem FP (z:Int):∀ d:Nat,cF (z+1) d*(z+1-d)=cF z d*(z+1)
 | 0=>by simp [cF]
 | d+1=>by
   have ih:=FP z d
   rw [cF,cF,ih,show cF z d*(z+1)*(z+1-((d+1:Nat):Int))=cF z d*(z-d)*(z+1) by
    rw [show z+1-((d+1:Nat):Int)=z-d by omega,Int.mul_assoc,Int.mul_assoc,Int.mul_comm (z+1)]]
theorem Gw {n:Nat}:∀ d:Nat,d≤n→0≤cF (n:Int) d
 | 0,_=>by simp [cF]
 | d+1,h=>by
   rw [cF];exact Int.mul_nonneg (Gw d (by omega)) (by omega)
def Yt (aH:Rat) (n d:Nat) (r:Rat):Rat:=((cF n d:Int):Rat)*r^(n-d)/aH^n
theorem Vc {aH r:Rat} {n d:Nat} (h0:0<aH) (hd:d≤n):Yt aH (n+1) d r=Yt aH n d r*eC aH n d r:=by
 have hp:aH^n≠0:=by have:=Rat.pow_pos (n:=n) h0;grind
 have hq:aH≠0:=by grind
 have hz:((((n:Int)+1-d:Int)):Rat)≠0:=OJ (by omega)
 have e:(((cF ((n+1:Nat):Int) d:Int)):Rat)*((((n:Int)+1-d:Int)):Rat)=((cF n d:Int):Rat)*((((n:Int)+1:Int)):Rat):=by
  rw [←Rat.intCast_mul,←Rat.intCast_mul,←FP];rfl
 unfold Yt eC;rw [show n+1-d=(n-d)+1 by omega,Rat.pow_succ,Rat.pow_succ];generalize (((cF ((n+1:Nat):Int) d:Int)):Rat)=f1 at *;generalize ((cF n d:Int):Rat)=f0 at *;generalize ((((n:Int)+1-d:Int)):Rat)=z at *;generalize ((((n:Int)+1:Int)):Rat)=w at *;generalize aH^n=p at *;generalize r^(n-d)=q at *;have e2:f1=f0*w/z:=by grind
 rw [e2];grind
theorem LH {aH r:Rat} {n d:Nat} (h0:0<aH) (hr:0≤r) (hd:d≤n):eC aH ((n+1:Nat):Int) d r≤eC aH n d r∧0≤eC aH n d r:=by
 have hz1:(0:Rat)<((((n+1:Nat):Int)+1-d:Int):Rat):=Rat.intCast_pos.2 (by omega);have hz0:(0:Rat)<(((n:Int)+1-d:Int):Rat):=Rat.intCast_pos.2 (by omega);have hq:=uF hr h0;refine ⟨?_,?_⟩
 ·unfold eC;refine Rat.mul_le_mul_of_nonneg_right (uO hz1 hz0 ?_) hq;rw [←Rat.intCast_mul,←Rat.intCast_mul];refine Rat.intCast_le_intCast.2 ?_
  have h1:(((n+1:Nat):Int)+1)*((n:Int)+1-d)=((n:Int)+2)*((n:Int)+1)-((n:Int)+2)*d:=by
   rw [show ((n+1:Nat):Int)+1=(n:Int)+2 by omega,Int.mul_sub]
  have h2:((n:Int)+1)*(((n+1:Nat):Int)+1-d)=((n:Int)+2)*((n:Int)+1)-((n:Int)+1)*d:=by
   rw [show ((n+1:Nat):Int)+1=(n:Int)+2 by omega,Int.mul_sub,Int.mul_comm ((n:Int)+1) ((n:Int)+2)]
  rw [h1,h2];have h3:((n:Int)+2)*d=((n:Int)+1)*d+d:=by rw [show (n:Int)+2=(n:Int)+1+1 by omega,Int.add_mul ((n:Int)+1) 1,Int.one_mul]
  omega
 ·unfold eC;exact Rat.mul_nonneg (uF (Rat.intCast_nonneg.2 (by omega)) hz0) hq
theorem Ln {b aH r:Rat} {n d:Nat} (hb:0≤b) (h0:0<aH) (hr:0≤r) (h1:eC aH n d r<1) (hd:d≤n:=by omega):qR b aH (n+1) d r≤qR b aH n d r∧eC aH ((n+1:Nat):Int) d r<1:=by
 obtain ⟨hs,hs0⟩:=LH (d:=d) h0 hr hd;have hu:=Vc (r:=r) h0 hd;have hu0:0≤Yt aH n d r:=uF (Rat.mul_nonneg (Rat.intCast_nonneg.2 (Gw d hd)) (Rat.pow_nonneg hr)) (Rat.pow_pos h0);have hbu:=Rat.mul_nonneg hb hu0;refine ⟨?_,by grind⟩;have t1:qR b aH (n+1) d r=b*Yt aH (n+1) d r/(((1:Int):Rat)-eC aH ((n+1:Nat):Int) d r):=rfl;have t0:qR b aH n d r=b*Yt aH n d r/(((1:Int):Rat)-eC aH n d r):=rfl;rw [t1,t0,hu];have one:((1:Int):Rat)=1:=by decide +kernel
 rw [one];generalize eC aH ((n+1:Nat):Int) d r=s1 at *;generalize eC aH n d r=s0 at *;generalize Yt aH n d r=u at *;refine uO (by grind) (by grind) ?_
 have k1:b*(u*s0)≤b*u:=by
  have:=Rat.mul_le_mul_of_nonneg_left (a:=s0) (b:=1) (c:=b*u) (by grind) hbu
  grind
 have k2:0≤1-s0:=by grind
 have k3:=Rat.mul_le_mul_of_nonneg_right k1 k2;have k4:=Rat.mul_le_mul_of_nonneg_left (a:=1-s0) (b:=1-s1) (c:=b*u) (by grind) hbu
 grind
end Go.Sy
