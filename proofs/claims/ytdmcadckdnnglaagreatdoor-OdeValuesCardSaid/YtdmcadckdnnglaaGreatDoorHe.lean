/- Part. -/
import Derived.Test.YtdmcadckdnnglaaGreatDoorHc
set_option linter.all false
namespace Go.Sy
open Go Go.Proofs Tryz Ord
def NU:Tr:=aW .add 3 32 1 11 0 3 (.back 1 [lV 14 0,lV 17 0])
def aq4:Tr:=.split (.u 16 0) (.split (.u 14 0) (aJ 152 [(.agg [(U 0 0),(U 0 1),(U 0 2),(U 0 3),(U 0 4),(U 0 5),(U 0 6)]),(W 11 0),(W 8 0),(W 15 0),(G4 1)] [(some 4)] [42,43,44,45,46] [214,3,3,3,49] 49 false (aJ 47 [(G4 17),(G4 6)] [none] [47,48] [49,49] 3 true (aW .leq 3 49 0 18 0 4 (aW .add 3 40 1 15 0 3 (.back 2 [lV 19 0,lV 20 0]))))) NU) NU
def Ou:Tr:=aW .add 3 22 1 8 0 3 (.back 0 [lV 7 0,lV 14 0])
def Ov:Tr:=.ret [(W 8 0)]
def aE8:Tr:=.loop 1 [(.w (.one (.c (.k (.bool true))))),lK 0] (cU 0 6 26 212 (bO .lss 3 24 27 11 0 12 0 4 (.split (.u 13 0) (.split (.u 10 0) (.loop 2 [lV 10 0,lK 0] (bO .leq 3 34 35 15 0 2 0 4 aq4)) Ou) (.split (.u 10 0) Ov Ou))))
def aN7:Tr:=aJ 230 [(W 3 0)] [(some 4)] [14] [3] 49 true (.need (.call 79 [(WK 1),(WK 4)] [(some 4)]) (.call ⟨.value (.func 79),#[(.const (I3 1)),(.const (I3 4))],#[2,2]⟩) 49 true (aJ 104 [(G4 4),(G4 5)] [(some 4)] [15,16] [49,49] 49 true (.loop 0 [lK 0,lV 0 5] (aW .leq 3 20 1500 8 0 4 (.split (.u 9 0) aE8 (.ret [(WK 0)]))))))
theorem Vc:aL prog f150 (fun _=>none) [.v (some 7), .v (some 4), .v none, .v none]=aN7:=by kernel_rfl
section
variable {E:List (List Rat)} {ER:List (List RQ)} {X:Rat} {XR:RQ}
theorem ax3 (l:List Rat):(l.map RQ.of).map RQ.q=l:=by
 rw [List.map_map];exact (List.map_congr_left fun x _=>rfl).trans (List.map_id l)
theorem aI4 (n l:Nat):(wD E X n l).map RQ.q=aX (bH E X) (E.length-1) (aQ E X) (bR (E.length-1) l) n:=ax3 _
theorem Bu (h:SmallX E ER X XR) (hr:lJ E X) {aF t:Rat} {st:Nat} {k:Int} (S:pY E X aF st t k) {l n i:Nat} (hl:l<E.length-1) (hn1:st≤n) (hn2:n≤1500) (hi:i<E.length-1) :
  aM prog 152 [.agg (plC (Bn ER XR) (.of aF) (st:Nat) (CG E X st (E.length-1))), .one (.int .i64 l), .one (.int .i64 n), .one (.int .i64 i),fO (.of t.abs)]
   (.ret [fO (.of (gR (tU (bH E X) (E.length-1) (aQ E X) aF st l) aF n i t.abs))]):=by
 have T:=h.Kq hr S hi;obtain ⟨h2,h5,hld,_⟩:=hr.facts;have S':=S;obtain ⟨hh,hh62,rfl,hst,hW⟩:=gA S.hv;have hst2:=S.st15;have hel:E.length=ER.length:=by have:=h.sim.1;rwa [jI] at this
 have hsl:(Bn ER XR).length=E.length:=by rw [Bn,aP,hel]
 have hul:(wD E X st l).length=st:=by rw [wD,aP];exact bW _ _ _ _ _
 have hd:=an3 (Bn ER XR) (.of (bF hh)) st l n i (CG E X st (E.length-1)) (wD E X st l) (.of t.abs) 33000000 (by rw [CG,cL,List.getElem?_range hl];rfl) (fun p hp=>by
   have hp2:p.map RQ.q∈bH E X:=by rw [←h.sh,fP];exact List.mem_map_of_mem hp
   have:=(h.RW _ hp2).1;rw [aP] at this;omega) (hJ S.tb.abs hh62 (by omega) (by omega) (by decide)) hn1 (by rw [h.sh,hsl];omega) (by rw [CG,aP,oE];omega) (fun x hx=>by
   obtain ⟨y,hy,rfl⟩:=gJ.1 hx;exact (Ba (h.yX hr l) (by omega) hy).mono (show Je≤33000000 by decide)) (zO hh) (by decide) (by decide) (T.sh n hn1 hn2 i (bC _))
 rw [h.sh,hsl,aI4] at hd;exact hd
end
theorem quarter:((1:Int):Rat)/((4:Int):Rat)=mkRat 1 (2^2):=by decide +kernel
set_option maxHeartbeats 1000000 in
theorem JT (E:List (List Rat)) (ER:List (List RQ)) (X:Rat) (XR:RQ) (h:SmallX E ER X XR) (hr:lJ E X) (aF t:Rat) (st:Nat) (k:Int) (S:pY E X aF st t k) (d:Nat) (hd:d<E.length-1:=by omega):aM prog 150 [(.agg (plC (Bn ER XR) (.of aF) (st:Nat) (CG E X st (E.length-1))):aE),(fO (.of t.abs):aE),(.one (.int .i64 d):aE),(.one (.int .i64 k):aE)] (.ret [.one (.int .i64 (((gI E X aF st t d k).getD 0:Nat)))]):=by
 refine bZ func150 Vc ?_;have h25:=hr.facts;have hk:=S.k256;have hst2:=S.st15;have L:=h.HY hr S hd;have T:=h.Kq hr S hd;have hbl:(CG E X st (E.length-1)).length=E.length-1:=by rw [CG,aP,oE]
 apply aA (aq2 k hk) rfl;apply aA (EM 1 4) rfl;apply aA (eS (.of (mkRat 1 (2^k.toNat))) (.of (((1:Int):Rat)/((4:Int):Rat))) 257 64 (kM (by omega)) (by rw [RQ.mS,quarter];decide)) rfl;rw [show (RQ.of (mkRat 1 (2^k.toNat))).q*(RQ.of (((1:Int):Rat)/((4:Int):Rat))).q=kX k by rw [RQ.mS,RQ.mS,quarter];rfl];dsimp only [aD,aC];refine bB {n:Nat // st≤n∧n≤1501∧∀ n',st≤n'→n'<n→¬ ∀ l,l<E.length-1→Lv (bH E X) (E.length-1) (aQ E X) aF st t.abs (kX k) d l n'=true} (fun g=>[.one (.int .i64 0), .one (.int .i64 g.1)]) (fun g=>1501-g.1) ⟨st,bC _,by omega,fun n' h1 h2=>by omega⟩ aN.rfl (fun _=>rfl) ?_;rintro ⟨n,hn1,hn2,hno⟩;dsimp only [aD,aC] at hn1 hn2 hno ⊢;apply vn eW rfl;refine vs _ rfl ?_ ?_<;>intro h5
 ·refine bB {g:Bool×Nat // g.2≤E.length-1∧(g.1=true↔∀ l,l<g.2→Lv (bH E X) (E.length-1) (aQ E X) aF st t.abs (kX k) d l n=true)} (fun g=>[.one (.bool g.1.1), .one (.int .i64 g.1.2)]) (fun g=>E.length-1-g.1.2) ⟨(true,0),bV _,by simp⟩ aN.rfl (fun _=>rfl) ?_;rintro ⟨⟨b,l⟩,hl,hb⟩;dsimp only [aD,aC] at hl hb ⊢;apply vn (aU au8 (aP _)) rfl;rw [hbl];apply vn aZ rfl;refine vs _ rfl ?_ ?_<;>intro h9
  ·refine mH b rfl (fun hbt=>?_) (fun hbf=>?_)
   ·subst hbt;have hlm:l<E.length-1:=by omega
    refine bB {g:Bool×Nat // g.2≤d+1∧(g.1=true↔∀ i,i<g.2→gR (tU (bH E X) (E.length-1) (aQ E X) aF st l) aF n i t.abs≤kX k)∧(g.1=false→∃ i,i≤d∧¬ gR (tU (bH E X) (E.length-1) (aQ E X) aF st l) aF n i t.abs≤kX k)} (fun g=>[.one (.bool g.1.1), .one (.int .i64 g.1.2)]) (fun g=>d+1-g.1.2) ⟨(true,0),bV _,by simp,fun e=>by cases e⟩ aN.rfl (fun _=>rfl) ?_;rintro ⟨⟨b2,i⟩,hi,hb2,hb3⟩;dsimp only [aD,aC] at hi hb2 hb3 ⊢;apply vn eW rfl;refine vs _ rfl ?_ ?_<;>intro h13
    ·refine mH b2 rfl (fun hbt2=>?_) (fun hbf2=>?_)
     ·subst hbt2;have hid:i≤d:=by omega
      apply aA (Bu h hr S hlm hn1 (by omega) (by omega)) rfl;apply aA (sJ (.of (gR (tU (bH E X) (E.length-1) (aQ E X) aF st l) aF n i t.abs)) (.of (kX k)) 200000000 200000000 (T.ft l hlm n hn1 (by omega) i hid) T.gf) rfl;rw [show lG (RQ.of (gR (tU (bH E X) (E.length-1) (aQ E X) aF st l) aF n i t.abs)).q (RQ.of (kX k)).q=lG (gR (tU (bH E X) (E.length-1) (aQ E X) aF st l) aF n i t.abs) (kX k) from rfl];dsimp only [aD,aC];apply vn eW rfl;apply vn (aB) rfl
      exact aR rfl ⟨⟨(decide (lG (gR (tU (bH E X) (E.length-1) (aQ E X) aF st l) aF n i t.abs) (kX k)≤0),i+1),by dsimp only;omega,by
       dsimp only;rw [decide_eq_true_iff,jP];refine ⟨fun h1 j hj=>?_,fun h1=>h1 i (by omega)⟩;rcases Nat.lt_or_ge j i with h3 | h3
       ·exact hb2.1 rfl j h3
       ·rw [show j=i by omega];exact h1,fun e=>⟨i,hid,fun h1=>of_decide_eq_false e (jP.2 h1)⟩⟩,aN.rfl,by show d+1-(i+1)<d+1-i;omega⟩
     apply vn (aB) rfl;dsimp only [aD,aC];subst hbf2
     exact aR rfl ⟨⟨(false,l+1),by dsimp only;omega,by
      dsimp only;refine ⟨fun e=>(by cases e),fun h1=>?_⟩;obtain ⟨i',hi',hno'⟩:=hb3 rfl;have h4:=h1 l (by omega);unfold Lv lM at h4;rw [List.all_eq_true] at h4;exact (hno' (of_decide_eq_true (h4 i' (List.mem_range.2 (by omega))))).elim⟩,aN.rfl,by show E.length-1-(l+1)<E.length-1-l;omega⟩
    apply vn (aB) rfl;dsimp only [aD,aC];have hid:i=d+1:=by omega
    subst hid
    exact aR rfl ⟨⟨(b2,l+1),by dsimp only;omega,by
     dsimp only;rw [hb2]
     have e:Lv (bH E X) (E.length-1) (aQ E X) aF st t.abs (kX k) d l n=true↔∀ i,i<d+1→gR (tU (bH E X) (E.length-1) (aQ E X) aF st l) aF n i t.abs≤kX k:=by
      unfold Lv lM;rw [List.all_eq_true];exact ⟨fun h1 i hi=>of_decide_eq_true (h1 i (List.mem_range.2 hi)),fun h1 i hi=>decide_eq_true (h1 i (List.mem_range.1 hi))⟩
     rw [←e];refine ⟨fun h1 l' hl'=>?_,fun h1=>h1 l (by omega)⟩;rcases Nat.lt_or_ge l' l with h3 | h3
     ·exact hb.1 rfl l' h3
     ·rw [show l'=l by omega];exact h1⟩,aN.rfl,by show E.length-1-(l+1)<E.length-1-l;omega⟩
   apply vn (aB) rfl;dsimp only [aD,aC];subst hbf
   exact aR rfl ⟨⟨n+1,by omega,by omega,fun n' h1 h2 hall=>by
    rcases Nat.lt_or_ge n' n with h3 | h3
    ·exact hno n' h1 h3 hall
    ·rw [show n'=n by omega] at hall;have:=hb.2 (fun l' hl'=>hall l' (by omega));cases this⟩,aN.rfl,by show 1501-(n+1)<1501-n;omega⟩
  refine mH b rfl (fun hbt=>?_) (fun hbf=>?_)
  ·subst hbt;have hlm:l=E.length-1:=by omega
   subst hlm;obtain ⟨N,hN,hNn⟩:=(L.iff n hn1 (by omega)).1 (hb.1 rfl);have hN1:=L.some N hN
   have hNe:N=n:=by
    rcases Nat.lt_or_ge N n with h3 | h3
    ·exact (hno N hN1.1 h3 ((L.iff N hN1.1 hN1.2).2 ⟨N,hN,bC _⟩)).elim
    ·omega
   rw [hN,hNe];exact aK rfl
  apply vn (aB) rfl;dsimp only [aD,aC];subst hbf;have hlm:l=E.length-1:=by omega
  subst hlm
  exact aR rfl ⟨⟨n+1,by omega,by omega,fun n' h1 h2 hall=>by
   rcases Nat.lt_or_ge n' n with h3 | h3
   ·exact hno n' h1 h3 hall
   ·rw [show n'=n by omega] at hall;have:=hb.2 hall;cases this⟩,aN.rfl,by show 1501-(n+1)<1501-n;omega⟩
 have hn:n=1501:=by omega
 have hnone:gI E X aF st t d k=none:=by
  cases ho:gI E X aF st t d k with
  | none=>rfl
  | some N=>
    have hN1:=L.some N ho;exact (hno N hN1.1 (by omega) ((L.iff N hN1.1 hN1.2).2 ⟨N,ho,bC _⟩)).elim
 rw [hnone];exact aK rfl
open Go Go.Proofs Tryz Ord
def UR:Tr:=.ret [(.one (.c (.k (.slice none 0 0)))),(WK 1)]
def Yz:Tr:=aJ 103 [(W 22 0),(W 13 0)] [(some 4)] [71,72] [3,3] 49 false (eN 20 0 22 0 50 74 75 (dR 30 0 (some 4) 49 76 (aJ 104 [(G4 29),(G4 31)] [(some 4)] [73,77] [49,49] 49 true (aJ 48 [(G4 28),(G4 32)] [(some 4)] [70,78] [49,49] 49 true (aW .sub 3 66 1 22 0 3 (.back 2 [lV 34 0,lV 33 0,lV 33 1,lV 33 2,lV 33 3]))))))
def ab2:Tr:=aJ 141 [(.agg [(U 23 0),(U 24 0),(U 25 0),(U 26 0)]),(G4 28)] [(some 4)] [87,88] [49,49] 49 false (aJ 48 [(.agg [(U 23 0),(U 24 0),(U 25 0),(U 26 0)]),(G4 28)] [(some 4)] [90,91] [49,49] 49 false (aJ 153 [(.agg [(U 29 0),(U 29 1),(U 29 2),(U 29 3),(U 30 0),(U 30 1),(U 30 2),(U 30 3)]),(W 3 0)] [(some 8)] [93,94] [140,3] 140 true (.need (.lit 8 [[(.u 31 0),(.u 31 1),(.u 31 2),(.u 31 3),(.u 31 4),(.u 31 5),(.u 31 6),(.u 31 7)]]) (.buildSlice 119 1 #[(0,(tT 95))]) 119 false (.need (.app 8 128 (some 17) none (some 32)) (.call ⟨.builtin .append,#[(tT 86),(tT 96)],#[119,119]⟩) 119 false (aW .add 3 52 1 16 0 3 (.back 1 [lV 34 0, .row 33]))))))
def ZJ:Tr:=aJ 151 [(W 8 0),(W 16 0)] [none] [56,57] [3,3] 50 false (aJ 28 [(W 4 0),(W 19 0),(W 11 0)] [none] [55,58,59] [44,50,3] 50 true (aW .sub 3 61 1 11 0 3 (.loop 2 [lV 21 0,lK 0,lN,lK 0,lN] (bO .geq 3 63 64 22 0 13 0 4 (.split (.u 27 0) (aJ 104 [(.agg [(U 23 0),(U 24 0),(U 25 0),(U 26 0)]),(G4 2)] [(some 4)] [68,69] [49,49] 49 false Yz) (aJ 152 [(.agg [(U 4 0),(U 4 1),(U 4 2),(U 4 3),(U 4 4),(U 4 5),(U 4 6)]),(W 16 0),(W 11 0),(W 13 0),(G4 9)] [(some 4)] [80,81,82,83,84] [214,3,3,3,49] 49 true ab2))))))
def YF:Tr:=.loop 1 [lK 0, .nilrow] (bO .lss 3 49 50 16 0 8 0 4 (.split (.u 18 0) ZJ (.need (.lit 1 [[(.sr 8 17)]]) (.buildSlice 113 1 #[(0,(tT 99))]) 113 false (.need (.app 1 24 (some 14) none (some 19)) (.call ⟨.builtin .append,#[(tT 98),(tT 100)],#[113,113]⟩) 113 false (aW .add 3 47 1 13 0 3 (.back 0 [lV 21 0, .row 20]))))))
def ax2:Tr:=aJ 150 [(.agg [(U 4 0),(U 4 1),(U 4 2),(U 4 3),(U 4 4),(U 4 5),(U 4 6)]),(G4 9),(W 10 0),(W 3 0)] [none] [36,37,39,40] [214,49,3,3] 3 true (aW .eql 3 42 0 11 0 4 (.split (.u 12 0) UR (.loop 0 [lK 0, .nilrow] (bO .lss 3 44 45 13 0 8 0 4 (.split (.u 15 0) YF (.ret [(.one (.c (.sr 1 14))),(WK 0)]))))))
def aA6:Tr:=aJ 149 [(W 0 0),(G4 1)] [(some 7),none] [24,25] [44,49] 215 false (.need (.prim [(W 5 0)] none) (.unOp .not 4 (tT 29)) 4 false (.split (.u 6 0) UR (cU 0 0 31 44 (aW .sub 3 32 1 7 0 3 (aJ 60 [(G4 2)] [(some 4)] [34] [49] 49 true (aW .sub 3 38 1 8 0 3 ax2))))))
theorem GI:aL prog f61 (fun _=>none) [.v none, .v (some 4), .v (some 4), .v none]=aA6:=by kernel_rfl
def ax9:Tr:=.need (.lit 1 [[(.k (.int .i64 0))],[(.k (.int .i64 5))],[(.k (.int .i64 14))]]) (.buildSlice 221 3 #[(0,(.const (I3 0))),(1,(.const (I3 5))),(2,(.const (I3 14)))]) 221 false (.need (.idx 1 (.u 0 0)) (.indexAddr 221 (tT 3) (tT 4)) 0 false (.need (.ldrow 1 (.u 0 0) 0 1 false) (.load 55 (tT 5)) 55 false (.ret [(W 2 0)])))
theorem aI3:aL prog f62 (fun _=>none) [.v none]=ax9:=by kernel_rfl
abbrev al6 (q:List (List Rat)) (m:Nat) (lead aF:Rat) (st:Nat) (t:Rat) (k:Int) (n d j:Nat):List (List aG):=(List.range j).map fun l=>Az (.of (HW q m lead aF st t k n d l)) (.of (Ho q m lead aF st t k n d l))
abbrev UI (q:List (List Rat)) (m:Nat) (lead aF:Rat) (st:Nat) (t:Rat) (k:Int) (n i:Nat):List (List aG):=(List.range i).map fun d=>[.slice 8 (al6 q m lead aF st t k n d m)]
set_option maxHeartbeats 1000000 in
theorem LP (E:List (List Rat)) (ER:List (List RQ)) (X:Rat) (XR u:RQ) (h:SmallX E ER X XR) (hr:lJ E X) (aF t:Rat) (st:Nat) (k:Int) (S:pY E X aF st t k) (hu:u.q=t) (hN:gI E X aF st t (E.length-1-1) k=none):aM prog 61 [(.one (eR ER):aE),(fO XR:aE),(fO u:aE),(.one (.int .i64 k):aE)] (.ret [.one (.exact (.slice none 0 0)), .one (.int .i64 1)]):=by
 refine bZ func61 GI ?_;have h25:=hr.facts;have hst2:=S.st15;have hel:E.length=ER.length:=by have:=h.sim.1;rwa [jI] at this
 have hst0:1≤st:=by
  obtain ⟨hh,hh62,_,hst,hW⟩:=gA S.hv;omega
 apply aA (Xb E ER X XR h hr aF st S.hv hst0) rfl;apply vn kW rfl;refine mH false rfl (fun h=>by cases h) (fun _=>?_);apply vn (aU kC (aP _)) rfl;dsimp only [aD,aC];apply vn (aH) rfl;apply aA (sY u) rfl;rw [hu,←hel,show (E.length:Int)-1=((E.length-1:Nat):Int) by omega];apply vn (aH) rfl;dsimp only [aD,aC];rw [show ((E.length-1:Nat):Int)-1=((E.length-1-1:Nat):Int) by omega];apply aA (JT E ER X XR h hr aF t st k S (E.length-1-1)) rfl;rw [hN];apply vn bK rfl;rw [show decide (((Option.getD none 0:Nat):Int)=0)=true from rfl];refine mH true rfl (fun _=>?_) (fun h=>by cases h);exact aK rfl
set_option maxHeartbeats 2000000 in
theorem NB (E:List (List Rat)) (ER:List (List RQ)) (X:Rat) (XR u:RQ) (h:SmallX E ER X XR) (hr:lJ E X) (aF t:Rat) (st:Nat) (k:Int) (S:pY E X aF st t k) (hu:u.q=t) (N:Nat) (hN:gI E X aF st t (E.length-1-1) k=some N):aM prog 61 [(.one (eR ER):aE),(fO XR:aE),(fO u:aE),(.one (.int .i64 k):aE)] (.ret [.one (.slice 1 (UI (bH E X) (E.length-1) (aQ E X) aF st t k N (E.length-1))), .one (.int .i64 0)]):=by
 refine bZ func61 GI ?_;have h25:=hr.facts;have hst2:=S.st15;have hk2:=S.k256;have hel:E.length=ER.length:=by have:=h.sim.1;rwa [jI] at this
 have hst0:1≤st:=by
  obtain ⟨hh,hh62,_,hst,hW⟩:=gA S.hv;omega
 have hN1:=(h.HY hr S (d:=E.length-1-1) (by omega)).some N hN;have M:=h.aC1 hr S hN1.1 hN1.2;have hul:∀ l,(wD E X N l).length=N:=fun l=>by rw [wD,aP];exact bW _ _ _ _ _
 apply aA (Xb E ER X XR h hr aF st S.hv) rfl;apply vn kW rfl;refine mH false rfl (fun h=>by cases h) (fun _=>?_);apply vn (aU kC (aP _)) rfl;dsimp only [aD,aC];apply vn (aH) rfl;apply aA (sY u) rfl;rw [hu,←hel,show (E.length:Int)-1=((E.length-1:Nat):Int) by omega];apply vn (aH) rfl;dsimp only [aD,aC];rw [show ((E.length-1:Nat):Int)-1=((E.length-1-1:Nat):Int) by omega];apply aA (JT E ER X XR h hr aF t st k S (E.length-1-1)) rfl;rw [hN];apply vn bK rfl;rw [show decide (((Option.getD (some N) 0:Nat):Int)=0)=false from decide_eq_false (by rw [Option.getD_some];omega),Option.getD_some];refine mH false rfl (fun h=>by cases h) (fun _=>?_);refine bB {d:Nat // d≤E.length-1} (fun g=>[.one (.int .i64 g.1), .rows (UI (bH E X) (E.length-1) (aQ E X) aF st t k N g.1)]) (fun g=>E.length-1-g.1) ⟨0,bV _⟩ aN.rfl (fun _=>rfl) ?_;rintro ⟨d,hd⟩;dsimp only [aD,aC] at hd ⊢;apply vn aZ rfl;refine vs _ rfl ?_ ?_<;>intro h14
 ·have hd1:d<E.length-1:=by omega
  refine bB {l:Nat // l≤E.length-1} (fun g=>[.one (.int .i64 g.1), .rows (al6 (bH E X) (E.length-1) (aQ E X) aF st t k N d g.1)]) (fun g=>E.length-1-g.1) ⟨0,bV _⟩ aN.rfl (fun _=>rfl) ?_;rintro ⟨l,hl⟩;dsimp only [aD,aC] at hl ⊢;apply vn aZ rfl;refine vs _ rfl ?_ ?_<;>intro h17
  ·have hl1:l<E.length-1:=by omega
   apply aA (Oh (E.length-1) l) rfl;dsimp only [aD,aC];have hs:=h.Ow hr l N (by omega) hN1.2;rw [show (aX (bH E X) (E.length-1) (aQ E X) (bR (E.length-1) l) N).map RQ.of=wD E X N l from rfl] at hs;apply aA hs rfl;apply vn (aH) rfl;dsimp only [aD,aC];refine bB {g:Nat×RQ // g.1≤N-d∧g.2.q=iQ t (aX (bH E X) (E.length-1) (aQ E X) (bR (E.length-1) l) N) d N g.1} (fun g=>(.one (.int .i64 ((N:Int)-1-g.1.1)):aE)::(rC g.1.2).map aE.one) (fun g=>N-d-g.1.1) ⟨(0, .nil),bV _,rfl⟩ ⟨by rw [show ((N:Int)-1-((0:Nat):Int))=(N:Int)-1 by omega];exact aE.Sub.same,eI.1,eI.2.1,eI.2.2.1,eI.2.2.2.1,trivial⟩ (fun _=>rfl) ?_;rintro ⟨⟨c,s⟩,hc,hs⟩;dsimp only [aD,aC,List.map] at hc hs ⊢;apply vn fJ rfl;refine vs _ rfl ?_ ?_<;>intro h23
   ·have hc1:c<N-d:=by omega
    have fs:=M.fs l hl1 d hd1 c (by omega);rw [←hs] at fs
    have hx:(wD E X N l)[N-1-c]? = some (.of ((aX (bH E X) (E.length-1) (aQ E X) (bR (E.length-1) l) N).getD (N-1-c) 0)):=by
     have hcl:=bW (bH E X) (E.length-1) (aQ E X) (bR (E.length-1) l) N;rw [wD,cL,dS,bI (by omega)];rfl
    apply aA (eS s u 400000000 513 fs (by rw [hu];exact S.tf)) rfl;rw [hu];dsimp only [aD,aC];rw [show (N:Int)-1-(c:Int)=((N-1-c:Nat):Int) by omega];apply aA (nH ((N-1-c:Nat):Int) d 100000000 (fun j hj=>M.ff (N-1-c) (by omega) d hd1 j hj)) rfl;apply vn (aV yW hx (Int.toNat_natCast (N-1-c))) rfl;apply vn (bJ mR (by decide) (by simp) (.inl rfl)) rfl;dsimp only [aD,aC]
    refine aA (eS _ (.of ((aX (bH E X) (E.length-1) (aQ E X) (bR (E.length-1) l) N).getD (N-1-c) 0)) 100000000 400000000 (M.ff (N-1-c) (by omega) d hd1 d (bC _)) (M.fc l hl1 _ (by
     have hcl:=bW (bH E X) (E.length-1) (aQ E X) (bR (E.length-1) l) N;rw [dS,bI (by omega)];exact List.getElem_mem _))) rfl ?_
    refine aA (jK (.of (s.q*t)) (.of _) 400000513 500000000 ((fs.mul S.tf).mono (by omega)) (((M.ff (N-1-c) (by omega) d hd1 d (bC _)).mul (M.fc l hl1 _ (by
     have hcl:=bW (bH E X) (E.length-1) (aQ E X) (bR (E.length-1) l) N;rw [dS,bI (by omega)];exact List.getElem_mem _))).mono (by omega))) rfl ?_
    apply vn (aH) rfl
    exact aR rfl ⟨⟨(c+1,_),by dsimp only;omega,by
     dsimp only;rw [RQ.mS,RQ.mS,RQ.mS,hs];show _=iQ t _ d N c*t+_*_;rw [Rat.mul_comm (((bL ((N-1-c:Nat):Int) d:Int):Rat))];rfl⟩,⟨by rw [show ((N:Int)-1-((c+1:Nat):Int))=((N-1-c:Nat):Int)-1 by omega];exact aE.Sub.same,aE.Sub.same,aE.Sub.same,aE.Sub.same,aE.Sub.same,trivial⟩,by show N-d-(c+1)<N-d-c;omega⟩
   have hce:c=N-d:=by omega
   subst hce;have fs:=M.fs l hl1 d hd1 (N-d) (bC _);have ft:=M.ft l hl1 d hd1;apply aA (Bu h hr S hl1 hN1.1 hN1.2 hd1) rfl;apply aA (CQ s _ 400000000 200000000 (by rw [hs];exact fs) ft) rfl;apply aA (jK s _ 400000000 200000000 (by rw [hs];exact fs) ft) rfl;dsimp only [aD,aC];apply aA (Sb _ _ k 1000000000 hk2 ((by rw [hs];exact (fs.sub ft).mono (by omega))) ((by rw [hs];exact (fs.add ft).mono (by omega)))) rfl;rw [RQ.mS,RQ.mS,RQ.mS,hs,Rat.sub_eq_add_neg];apply bP (us:=[Az (.of (HW (bH E X) (E.length-1) (aQ E X) aF st t k N d l)) (.of (Ho (bH E X) (E.length-1) (aQ E X) aF st t k N d l))]) rfl;refine kK (xs:=List.range l) (x:=l) (f:=fun l=>Az (.of (HW (bH E X) (E.length-1) (aQ E X) aF st t k N d l)) (.of (Ho (bH E X) (E.length-1) (aQ E X) aF st t k N d l))) rfl rfl (by rw [oE];omega) (by simp only [maxLen];rw [oE];omega) ?_;rw [←List.range_succ];dsimp only [aD,aC];apply vn (aB) rfl;dsimp only [aD,aC];exact aR rfl ⟨⟨l+1,by omega⟩,aN.rfl,by show E.length-1-(l+1)<E.length-1-l;omega⟩
  obtain rfl:l=E.length-1:=by omega
  apply bP (us:=[[.slice 8 (al6 (bH E X) (E.length-1) (aQ E X) aF st t k N d (E.length-1))]]) rfl;refine kK (xs:=List.range d) (x:=d) (f:=fun d=>[.slice 8 (al6 (bH E X) (E.length-1) (aQ E X) aF st t k N d (E.length-1))]) rfl rfl (by rw [oE];omega) (by simp only [maxLen];rw [oE];omega) ?_;rw [←List.range_succ];apply vn (aB) rfl;dsimp only [aD,aC];exact aR rfl ⟨⟨d+1,by omega⟩,aN.rfl,by show E.length-1-(d+1)<E.length-1-d;omega⟩
 obtain rfl:d=E.length-1:=by omega
 exact aK rfl
theorem aC9  :aM prog 62 [(.one (.int .i64 1):aE)] (.ret [.one (.int .i64 5)]):=by
 refine bZ func62 aI3 ?_;apply bP rfl;refine kR (ik:=.i64) (n:=1) (ts:=[[.int .i64 0],[.int .i64 5],[.int .i64 14]]) rfl rfl (by decide) (by decide) ?_;refine vld (ik:=.i64) (n:=1) (ts:=[[.int .i64 0],[.int .i64 5],[.int .i64 14]]) (cells:=[.int .i64 5]) (t:=.one (.int .i64 5)) rfl rfl (by decide) rfl (.inr rfl) rfl ?_;exact aK rfl
open Go Go.Proofs Tryz Ord
theorem aM.bG7 {P:Program} {f:FuncId} {ins:List aE} {ts us:List aE} (h:aM P f ins (.ret ts)) (hs:aN ts us):aM P f ins (.ret us):=
 ⟨h.1,fun M w vs hM hv=>(h.2 M w vs hM hv).mono fun e w' ⟨hb,vs',e',hr⟩=>⟨hb,vs',e',cW.sub hs hr⟩⟩
def Ad (E:List (List Rat)) (X aF:Rat) (st:Nat) (t:Rat) (k:Int):List (List aG)×Int:=
 match gI E X aF st t (E.length-1-1) k with
 | some N=>(UI (bH E X) (E.length-1) (aQ E X) aF st t k N (E.length-1),0)
 | none=>([],1)
section
variable {E:List (List Rat)} {ER:List (List RQ)} {X:Rat} {XR:RQ}
theorem bg0 (hr:lJ E X) {aF t:Rat} {st:Nat} {k:Int} (hv:cY (bH E X) (E.length-1) (aQ E X)=some (aF,st)) (hst:st≤1500) (ht:xY t) (h2:t.abs*2≤aF) (hk:k≤256):pY E X aF st t k:=by
 have e:t.abs+t.abs=t.abs*2:=by grind
 exact ⟨hv,hst,ht,by rw [e];exact h2,hk⟩
theorem Fi (h:SmallX E ER X XR) (hr:lJ E X) {aF t:Rat} {u:RQ} {st:Nat} {k:Int} (S:pY E X aF st t k) (hu:u.q=t) :
  aM prog 61 [.one (eR ER),fO XR,fO u, .one (.int .i64 k)] (.ret [.one (.slice 1 (Ad E X aF st t k).1), .one (.int .i64 (Ad E X aF st t k).2)]):=by
 unfold Ad;cases ho:gI E X aF st t (E.length-1-1) k with
 | none=>exact (LP E ER X XR u h hr aF t st k S hu ho).bG7 ⟨aG.Sub.nil,aE.Sub.same,trivial⟩
 | some N=>exact NB E ER X XR u h hr aF t st k S hu N ho
end
open Go Go.Proofs Tryz Ord
def aH6:Tr:=aW .lss 3 3 0 0 0 4 (.ret [(W 1 0)])
theorem XH:aL prog f273 (fun _=>none) [.v none]=aH6:=by kernel_rfl
def UT:Tr:=.ret [(G3 1)]
def aM7:Tr:=.need (.call 258 [(.one (.iZ 273 [])),(W 0 0)] [(some 3)]) (.call ⟨.value (.func 258),#[(.func 273),(tT 3)],#[305,40]⟩) 39 true UT
theorem bn2:aL prog f235 (fun _=>none) [.v none]=aM7:=by kernel_rfl
def ao1:Tr:=aJ 47 [(G4 10),(.agg [(U 2 0),(U 3 0),(U 4 0),(U 5 0)])] [none] [17,18] [49,49] 3 false (aW .lss 3 19 0 11 0 4 (.split (.u 12 0) (eN 0 0 1 0 50 22 23 (dR 13 0 (some 4) 49 24 (aW .add 3 9 1 1 0 3 (.back 0 [lV 15 0,lV 14 0,lV 14 1,lV 14 2,lV 14 3])))) (aW .add 3 9 1 1 0 3 (.back 0 [lV 13 0,lV 2 0,lV 3 0,lV 4 0,lV 5 0]))))
def aL7:Tr:=.split (.u 7 0) (aW .eql 3 11 0 1 0 4 (.split (.u 8 0) (eN 0 0 1 0 50 22 23 (dR 9 0 (some 4) 49 24 (aW .add 3 9 1 1 0 3 (.back 0 [lV 11 0,lV 10 0,lV 10 1,lV 10 2,lV 10 3])))) (eN 0 0 1 0 50 14 15 (dR 9 0 (some 4) 49 16 ao1)))) (.ret [(.agg [(U 2 0),(U 3 0),(U 4 0),(U 5 0)])])
def aF9:Tr:=.loop 0 [lK 0,lK 0,lN,lK 0,lN] (cU 0 0 6 50 (bO .lss 3 5 7 1 0 6 0 4 aL7))
theorem bc1:aL prog f164 (fun _=>none) [.v none]=aF9:=by kernel_rfl
def aW4:Tr:=aJ 235 [(W 0 0)] [(some 3)] [3] [40] 39 false (aJ 208 [(W 0 0)] [(some 3)] [5] [40] 39 true (.ret [(.agg [(U 1 0),(U 1 1),(U 1 2),(U 2 0),(U 2 1),(U 2 2)])]))
theorem PQ:aL prog f162 (fun _=>none) [.v none]=aW4:=by kernel_rfl
def aZ5:Tr:=.need (.callv (.u 0 0) [(.agg [(U 1 0),(U 1 1),(U 1 2)]),(.agg [(U 2 0),(U 2 1),(U 2 2)])] [(some 3)]) (.call ⟨.value (tT 7),#[(tT 9),(tT 11)],#[39,39]⟩) 39 false (.need (.callv (.u 0 0) [(.agg [(U 1 0),(U 1 1),(U 1 2)]),(.agg [(U 2 3),(U 2 4),(U 2 5)])] [(some 3)]) (.call ⟨.value (tT 13),#[(tT 15),(tT 17)],#[39,39]⟩) 39 false (.need (.callv (.u 0 0) [(.agg [(U 1 3),(U 1 4),(U 1 5)]),(.agg [(U 2 0),(U 2 1),(U 2 2)])] [(some 3)]) (.call ⟨.value (tT 19),#[(tT 21),(tT 23)],#[39,39]⟩) 39 false (.need (.callv (.u 0 0) [(.agg [(U 1 3),(U 1 4),(U 1 5)]),(.agg [(U 2 3),(U 2 4),(U 2 5)])] [(some 3)]) (.call ⟨.value (tT 25),#[(tT 27),(tT 29)],#[39,39]⟩) 39 true (.need (.lit 3 [[(.u 3 0),(.u 3 1),(.u 3 2)],[(.u 4 0),(.u 4 1),(.u 4 2)],[(.u 5 0),(.u 5 1),(.u 5 2)],[(.u 6 0),(.u 6 1),(.u 6 2)]]) (.buildSlice 40 4 #[(0,(tT 12)),(1,(tT 18)),(2,(tT 24)),(3,(tT 30))]) 40 false (aJ 162 [(.one (.c (.sr 3 7)))] [(some 6)] [31] [40] 123 true (.ret [(G6 8)]))))))
theorem bc0:aL prog f156 (fun _=>none) [.v none, .v (some 6), .v (some 6)]=aZ5:=by kernel_rfl
def ay0:Tr:=.need (.call 156 [(.one (.iZ 36 [])),(G6 0),(G6 1)] [(some 6)]) (.call ⟨.value (.func 156),#[(.func 36),(tT 5),(tT 6)],#[224,123,123]⟩) 123 true (.ret [(G6 2)])
theorem aT7:aL prog f67 (fun _=>none) [.v (some 6), .v (some 6)]=ay0:=by kernel_rfl
def aT2:Tr:=aJ 167 [(.agg [(U 0 3),(U 0 4),(U 0 5)]),(G3 0)] [(some 3)] [4,6] [39,39] 39 true UT
theorem TY:aL prog f80 (fun _=>none) [.v (some 6)]=aT2:=by kernel_rfl
def aO2:Tr:=aJ 48 [(G4 0),(G4 1)] [(some 4)] [6,8] [49,49] 49 false (aJ 48 [(.agg [(U 0 4),(U 0 5),(U 0 6),(U 0 7)]),(.agg [(U 1 4),(U 1 5),(U 1 6),(U 1 7)])] [(some 4)] [11,13] [49,49] 49 true (.ret [(.agg [(U 2 0),(U 2 1),(U 2 2),(U 2 3),(U 3 0),(U 3 1),(U 3 2),(U 3 3)])]))
theorem ae9:aL prog f165 (fun _=>none) [.v (some 8), .v (some 8)]=aO2:=by kernel_rfl
def aI9:Tr:=.ret [(.agg [(U 0 0),(U 0 1),(U 0 2),(U 0 3),(U 0 0),(U 0 1),(U 0 2),(U 0 3)])]
theorem bm6:aL prog f163 (fun _=>none) [.v (some 4)]=aI9:=by kernel_rfl
def OK:Tr:=aW .add 3 23 1 5 0 3 (.back 0 [lV 15 0, .row 14])
def aW1:Tr:=.need (.ldrow 3 (.u 8 0) 0 4 true) (.load 49 (tT 30)) 49 false (aW .rem 3 33 2 5 0 3 (.need (.idx 4 (.u 10 0)) (.indexAddr 50 (tT 32) (tT 34)) 0 false (.need (.ldrow 4 (.u 10 0) 0 4 true) (.load 49 (tT 35)) 49 false (aJ 102 [(G4 9),(G4 11)] [(some 4)] [31,36] [49,49] 49 true (.need (.lit 4 [[(.u 12 0),(.u 12 1),(.u 12 2),(.u 12 3)]]) (.buildSlice 50 1 #[(0,(tT 37))]) 50 false (.need (.app 4 64 (some 6) none (some 13)) (.call ⟨.builtin .append,#[(tT 26),(tT 38)],#[50,50]⟩) 50 false OK))))))
def YT:Tr:=.need (.ldrow 3 (.u 8 0) 0 4 true) (.load 49 (tT 44)) 49 false (aW .rem 3 47 2 5 0 3 (.need (.idx 4 (.u 10 0)) (.indexAddr 50 (tT 46) (tT 48)) 0 false (.need (.ldrow 4 (.u 10 0) 0 4 true) (.load 49 (tT 49)) 49 false (aJ 104 [(G4 9),(G4 11)] [(some 4)] [45,50] [49,49] 49 true (.need (.lit 4 [[(.u 12 0),(.u 12 1),(.u 12 2),(.u 12 3)]]) (.buildSlice 50 1 #[(0,(tT 51))]) 50 false (.need (.app 4 64 (some 6) none (some 13)) (.call ⟨.builtin .append,#[(tT 40),(tT 52)],#[50,50]⟩) 50 false OK))))))
def aJ9:Tr:=.need (.lit 4 [[(.u 1 0),(.u 1 1),(.u 1 2),(.u 1 3)],[(.u 1 4),(.u 1 5),(.u 1 6),(.u 1 7)]]) (.buildSlice 50 2 #[(0,(tT 17)),(1,(tT 19))]) 50 false (.loop 0 [lK 0, .nilrow] (aW .lss 3 21 4 5 0 4 (.split (.u 7 0) (.split (.u 2 0) (aW .quo 3 28 2 5 0 3 (.need (.idx 3 (.u 8 0)) (.indexAddr 50 (tT 27) (tT 29)) 0 false aW1)) (aW .quo 3 42 2 5 0 3 (.need (.idx 3 (.u 8 0)) (.indexAddr 50 (tT 41) (tT 43)) 0 false YT))) (aJ 164 [(.one (.c (.sr 4 6)))] [(some 4)] [54] [50] 49 false (aJ 140 [(.one (.c (.sr 4 6)))] [(some 4)] [56] [50] 49 true (.ret [(.agg [(U 8 0),(U 8 1),(U 8 2),(U 8 3),(U 9 0),(U 9 1),(U 9 2),(U 9 3)])]))))))
def bd4:Tr:=.need (.lit 4 [[(.u 0 0),(.u 0 1),(.u 0 2),(.u 0 3)],[(.u 0 4),(.u 0 5),(.u 0 6),(.u 0 7)]]) (.buildSlice 50 2 #[(0,(tT 12)),(1,(tT 14))]) 50 false aJ9
theorem ai0:aL prog f236 (fun _=>none) [.v (some 8), .v (some 8), .v none]=bd4:=by kernel_rfl
def bb0:Tr:=.need (.call 236 [(G8 0),(G8 1),(tF false)] [(some 8)]) (.call ⟨.value (.func 236),#[(tT 5),(tT 6),(.const (.bool false))],#[140,140,4]⟩) 140 true (.ret [(G8 2)])
theorem ZW:aL prog f166 (fun _=>none) [.v (some 8), .v (some 8)]=bb0:=by kernel_rfl
def aO7:Tr:=aJ 206 [(G2 1)] [none] [5] [47] 9 false (cU 2 0 6 9 (aJ 136 [(G4 0)] [(some 2)] [8] [49] 47 false (aJ 206 [(G2 4)] [none] [9] [47] 9 false (cU 5 0 10 9 (bO .add 3 7 11 3 0 6 0 3 (.ret [(W 7 0)]))))))
def aN0:Tr:=aJ 148 [(G2 0)] [(some 2)] [4] [47] 47 false aO7
theorem aH9:aL prog f159 (fun _=>none) [.v (some 4)]=aN0:=by kernel_rfl
def ba1:Tr:=aW .leq 3 6 6 2 0 4 (.split (.u 3 0) (aJ 141 [(G4 0),(G4 1)] [(some 4)] [9,10] [49,49] 49 false (aJ 60 [(G4 4)] [(some 4)] [11] [49] 49 false (.need (.call 50 [(WK 1)] [(some 4)]) (.call ⟨.value (.func 50),#[(.const (I3 1))],#[2]⟩) 49 false (aJ 47 [(G4 5),(G4 6)] [none] [12,13] [49,49] 3 false (aW .leq 3 14 0 7 0 4 Ov))))) (.ret [(tF false)]))
def aB4:Tr:=aJ 159 [(G4 0)] [none] [5] [49] 3 false ba1
theorem ac0:aL prog f70 (fun _=>none) [.v (some 4), .v (some 4)]=aB4:=by kernel_rfl
def mG (l:List Rat):Nat→Rat
 | 0=>0
 | i+1=>if i=0∨l.getD i 0<mG l i then l.getD i 0 else mG l i
def kV (l:List RQ):Nat→RQ
 | 0=>.nil
 | i+1=>if i=0∨(l.getD i .nil).q<(kV l i).q then l.getD i .nil else kV l i
theorem vO (l:List RQ):∀ i,(kV l i).q=mG (l.map RQ.q) i
 | 0=>rfl
 | i+1=>by
   rw [kV,mG,vO l i,HI];split
   ·exact HI l i
   ·exact vO l i
theorem KO {l:List Rat}:∀ i,i≤l.length→mG l i=0∨mG l i∈l
 | 0,_=>.inl rfl
 | i+1,h=>by
   rw [mG];split
   ·exact .inr (cI (cX (show i<l.length by omega)))
   ·exact KO i (by omega)
theorem uE {l:List Rat} {B:Nat} (h:∀ x∈l,Fit B x) (i:Nat) (hi:i≤l.length) (hB:1≤B:=by omega):Fit B (mG l i):=by
 rcases KO i hi with e | e
 ·rw [e];exact Fit.zero hB
 ·exact h _ e
theorem Ct {a b:Rat}:lG a b<0↔a<b:=by
 unfold lG;by_cases h1:a<b
 ·rw [if_pos h1];exact ⟨fun h=>h1,fun h=>by omega⟩
 ·rw [if_neg h1];by_cases h2:b<a
  ·rw [if_pos h2];exact ⟨fun _=>by omega,fun h=>absurd h h1⟩
  ·rw [if_neg h2];exact ⟨fun h=>by omega,fun h=>absurd h h1⟩
theorem ZK (c:Int):aM prog 273 [(.one (.int .i64 c):aE)] (.ret [.one (.bool (decide (c<0)))]):=by
 refine bZ func273 XH ?_;apply vn aZ rfl;exact aK rfl
theorem Nz (l:List Rat) (B:Nat) (hl:∀ x∈l,Fit B x) (hB:1≤B) (hB2:B≤8589934592) (hs:l.length<1099511627776):aM prog 258 [(.one (.iZ 273 []):aE),(.one (sQ l):aE)] (.ret [qT (mG l l.length)]):=by
 refine bZ func258 Jv ?_;apply vn (aU wV (aP _)) rfl;refine bB {i:Nat // i≤l.length} (fun g=>(.one (.int .i64 g.1):aE)::(qC (mG l g.1)).map .one) (fun g=>l.length-g.1) ⟨0,bV _⟩ ⟨aE.Sub.same,rU⟩ (fun _=>rfl) ?_;rintro ⟨i,hi⟩;dsimp only [aD,aC,List.map] at hi ⊢;apply vn aZ rfl;refine vs _ rfl ?_ ?_<;>intro h3
 ·have hil:i<l.length:=by omega
  have hfx:=hl _ (cI (cX hil));have hfm:=uE hl i hi hB;apply vn (aV wV (cX hil) (Int.toNat_natCast i)) rfl;apply vn (bJ tA (by decide) (by simp) (.inl rfl)) rfl;dsimp only [aD,aC];apply vn bK rfl;refine vs _ rfl ?_ ?_<;>intro h7
  ·apply vn (aB) rfl
   exact aR rfl ⟨⟨i+1,by omega⟩,(by
    dsimp only;rw [mG,if_pos (.inl (by omega))];exact aN.rfl),by show l.length-(i+1)<l.length-i;omega⟩
  apply aA (tY _ _ B B hfx hfm) rfl;apply tX (f:=273) (caps:=[]) rfl (ZK (lG (l.getD i 0) (mG l i))) rfl;refine vs _ rfl ?_ ?_<;>intro h12
  ·apply vn (aB) rfl
   exact aR rfl ⟨⟨i+1,by omega⟩,(by
    dsimp only;rw [mG,if_pos (.inr (Ct.1 h12))];exact aN.rfl),by show l.length-(i+1)<l.length-i;omega⟩
  apply vn (aB) rfl
  exact aR rfl ⟨⟨i+1,by omega⟩,(by
   dsimp only;rw [mG,if_neg (by rintro (h | h);omega;exact h12 (Ct.2 h))];exact aN.rfl),by show l.length-(i+1)<l.length-i;omega⟩
 rw [show l.length=i by omega];exact aK rfl
theorem aw0 (l:List Rat) (B:Nat) (hl:∀ x∈l,Fit B x) (hB:1≤B) (hB2:B≤8589934592) (hs:l.length<1099511627776):aM prog 235 [(.one (sQ l):aE)] (.ret [qT (mG l l.length)]):=by
 refine bZ func235 bn2 ?_;apply aA (Nz l B hl hB hB2 hs) rfl;exact aK rfl
theorem We (l:List RQ) (B:Nat) (hl:∀ x∈l,Fit B x.q) (hB:1≤B) (hB2:B≤1073741824) (hs:l.length<1099511627776):aM prog 164 [(.one (sR l):aE)] (.ret [fO (kV l l.length)]):=by
 refine bZ func164 bc1 ?_
 have hlq:∀ x∈l.map RQ.q,Fit B x:=fun x hx=>by
  obtain ⟨y,hy,rfl⟩:=gJ.1 hx;exact hl y hy
 refine bB {i:Nat // i≤l.length} (fun g=>(.one (.int .i64 g.1):aE)::(rC (kV l g.1)).map .one) (fun g=>l.length-g.1) ⟨0,bV _⟩ ⟨aE.Sub.same,eI.1,eI.2.1,eI.2.2.1,eI.2.2.2.1,trivial⟩ (fun _=>rfl) ?_;rintro ⟨i,hi⟩;dsimp only [aD,aC,List.map] at hi ⊢;apply vn (aU yW (aP _)) rfl;apply vn aZ rfl;refine vs _ rfl ?_ ?_<;>intro h3
 ·obtain ⟨x,hx⟩:∃ x,l[i]? = some x:=⟨_,bI (by omega)⟩
  have hgx:l.getD i .nil=x:=by rw [dS,hx];rfl
  apply vn bK rfl;dsimp only [aD,aC];refine vs _ rfl ?_ ?_<;>intro h5
  ·apply vn (aV yW hx) rfl;apply vn (bJ mR (by decide) (by simp) (.inl rfl)) rfl;apply vn (aB) rfl
   exact aR rfl ⟨⟨i+1,by omega⟩,(by
    dsimp only;rw [show kV l (i+1)=x from (if_pos (.inl (by omega))).trans hgx];exact aN.rfl),by show l.length-(i+1)<l.length-i;omega⟩
  apply vn (aV yW hx) rfl;apply vn (bJ mR (by decide) (by simp) (.inl rfl)) rfl;apply aA (sJ x (kV l i) B B (hl x (cI hx)) (by rw [vO];exact uE hlq i (by rw [aP];exact hi) hB)) rfl;dsimp only [aD,aC];apply vn aZ rfl;refine vs _ rfl ?_ ?_<;>intro h14
  ·apply vn (aV yW hx) rfl;apply vn (bJ mR (by decide) (by simp) (.inl rfl)) rfl;dsimp only [aD,aC];apply vn (aB) rfl
   exact aR rfl ⟨⟨i+1,by omega⟩,(by
    dsimp only;rw [show kV l (i+1)=x from (if_pos (.inr (by rw [hgx];exact Ct.1 h14))).trans hgx];exact aN.rfl),by show l.length-(i+1)<l.length-i;omega⟩
  apply vn (aB) rfl
  exact aR rfl ⟨⟨i+1,by omega⟩,(by
   dsimp only;rw [show kV l (i+1)=kV l i from if_neg (by rintro (h | h);omega;rw [hgx] at h;exact h14 (Ct.2 h))];exact aN.rfl),by show l.length-(i+1)<l.length-i;omega⟩
 rw [show l.length=i by omega];exact aK rfl
theorem PL (l:List Rat) (B:Nat) (hl:∀ x∈l,Fit B x) (hs:l.length<1099511627776) (hB:1≤B:=by omega) (hB2:B≤8589934592:=by omega):aM prog 162 [(.one (sQ l):aE)] (.ret [Cc (mG l l.length) (lZ l l.length)]):=by
 refine bZ func162 PQ ?_;apply aA (aw0 l B hl hB hB2 hs) rfl;apply aA (Sz l B hl hB hB2 hs) rfl;exact aK rfl
abbrev Gy (a b c d:Rat):List Rat:=[a*c,a*d,b*c,b*d]
def KW (a b c d:Rat):Rat:=mG (Gy a b c d) 4
def Ln (a b c d:Rat):Rat:=lZ (Gy a b c d) 4
theorem AE {a b c d:Rat} {A B:Nat} (ha:Fit A a) (hb:Fit A b) (hc:Fit B c) (hd:Fit B d):∀ x∈Gy a b c d,Fit (A+B) x:=fun x hx=>by
 simp only [Gy,List.mem_cons,List.not_mem_nil,or_false] at hx;rcases hx with rfl | rfl | rfl | rfl
 ·exact ha.mul hc
 ·exact ha.mul hd
 ·exact hb.mul hc
 ·exact hb.mul hd
theorem Io {a b c d:Rat} {A B:Nat} (h1:1≤A) (ha:Fit A a) (hb:Fit A b) (hc:Fit B c) (hd:Fit B d):Fit (A+B) (KW a b c d)∧Fit (A+B) (Ln a b c d):=
 ⟨uE (AE ha hb hc hd) 4 (by simp),rX (AE ha hb hc hd) 4 (by simp)⟩
theorem aC5 (a b c d:Rat) (A B:Nat) (h1:1≤A) (ha:Fit A a) (hb:Fit A b) (hc:Fit B c) (hd:Fit B d) (h:A+B≤4294967296):aM prog 156 [(.one (.iZ 36 []):aE),(Cc a b:aE),(Cc c d:aE)] (.ret [Cc (KW a b c d) (Ln a b c d)]):=by
 refine bZ func156 bc0 ?_;apply tX (f:=36) (caps:=[]) rfl (dN a c A B ha hc) rfl;apply tX (f:=36) (caps:=[]) rfl (dN a d A B ha hd) rfl;apply tX (f:=36) (caps:=[]) rfl (dN b c A B hb hc) rfl;dsimp only [aD,aC];apply tX (f:=36) (caps:=[]) rfl (dN b d A B hb hd) rfl;apply bP (us:=rQ (Gy a b c d)) rfl;apply aA (PL (Gy a b c d) (A+B) (AE ha hb hc hd) (by simp)) rfl;exact aK rfl
theorem aJ2 (a b c d:Rat) (A B:Nat) (h1:1≤A) (ha:Fit A a) (hb:Fit A b) (hc:Fit B c) (hd:Fit B d) (h:A+B≤4294967296:=by omega):aM prog 67 [(Cc a b:aE),(Cc c d:aE)] (.ret [Cc (KW a b c d) (Ln a b c d)]):=by
 refine bZ func67 aT7 ?_;apply aA (aC5 a b c d A B h1 ha hb hc hd h) rfl;exact aK rfl
theorem KB (a b:Rat) (A B:Nat) (ha:Fit A a) (hb:Fit B b) (h:B+A≤4294967296:=by omega):aM prog 80 [(Cc a b:aE)] (.ret [qT (b-a)]):=by
 refine bZ func80 TY ?_;apply aA (HB b a B A hb ha) rfl;exact aK rfl
theorem XF (a b c d:RQ) (A B:Nat) (ha:Fit A a.q) (hb:Fit A b.q) (hc:Fit B c.q) (hd:Fit B d.q) (h:A+B≤4294967296:=by omega):aM prog 165 [(tR a b:aE),(tR c d:aE)] (.ret [tR (.of (a.q+c.q)) (.of (b.q+d.q))]):=by
 refine bZ func165 ae9 ?_;apply aA (jK a c A B ha hc h) rfl;apply aA (jK b d A B hb hd h) rfl;exact aK rfl
theorem bn9 (a:RQ):aM prog 163 [(fO a:aE)] (.ret [tR a a]):=by
 refine bZ func163 bm6 ?_;exact aK rfl
abbrev rD (a b c d:RQ):List RQ:=[.of (a.q*c.q), .of (a.q*d.q), .of (b.q*c.q), .of (b.q*d.q)]
def Eg (a b c d:RQ):RQ:=kV (rD a b c d) 4
def DI (a b c d:RQ):RQ:=nK (rD a b c d) 4
theorem Km (a b c d:RQ):(Eg a b c d).q=KW a.q b.q c.q d.q:=vO _ _
theorem JV (a b c d:RQ):(DI a b c d).q=Ln a.q b.q c.q d.q:=vX _ _
theorem aq0 (a b c d:RQ) (A B:Nat) (h1:1≤A) (ha:Fit A a.q) (hb:Fit A b.q) (hc:Fit B c.q) (hd:Fit B d.q) (h:A+B≤1073741824):aM prog 236 [(tR a b:aE),(tR c d:aE),(.one (.bool false):aE)] (.ret [tR (Eg a b c d) (DI a b c d)]):=by
 refine bZ func236 ai0 ?_
 have hp:∀ x∈rD a b c d,Fit (A+B) x.q:=fun x hx=>by
  simp only [rD,List.mem_cons,List.not_mem_nil,or_false] at hx;rcases hx with rfl | rfl | rfl | rfl
  ·exact ha.mul hc
  ·exact ha.mul hd
  ·exact hb.mul hc
  ·exact hb.mul hd
 apply bP (us:=rR [a,b]) rfl;apply bP (us:=rR [c,d]) rfl;refine bB {i:Nat // i≤4} (fun g=>[.one (.int .i64 g.1), .rows (rR ((rD a b c d).take g.1))]) (fun g=>4-g.1) ⟨0,bV _⟩ aN.rfl (fun _=>rfl) ?_;rintro ⟨i,hi⟩;dsimp only [aD,aC] at hi ⊢;apply vn aZ rfl;refine vs _ rfl ?_ ?_<;>intro h4
 ·refine mH false rfl (fun h=>by cases h) (fun _=>?_)
  obtain ⟨x,y,hx,hy,hxf,hyf,hxy⟩:∃ x y,[a,b][i/2]? = some x ∧ [c,d][i%2]? = some y∧Fit A x.q∧Fit B y.q∧(rD a b c d)[i]? = some (.of (x.q*y.q)):=by
   rcases (by omega:i=0∨i=1∨i=2∨i=3) with rfl | rfl | rfl | rfl
   ·exact ⟨a,c,rfl,rfl,ha,hc,rfl⟩
   ·exact ⟨a,d,rfl,rfl,ha,hd,rfl⟩
   ·exact ⟨b,c,rfl,rfl,hb,hc,rfl⟩
   ·exact ⟨b,d,rfl,rfl,hb,hd,rfl⟩
  apply vn (gV) rfl;refine kR rfl rfl (by omega) (by simp;omega) ?_;refine Fw (m:=i/2) (t:=fO x) rfl rfl (by omega) (by omega) hx (.inl rfl) rfl ?_;dsimp only [aD,aC,IJ,List.drop,List.take];apply vn (eP) rfl;refine kR rfl rfl (by omega) (by simp;omega) ?_;refine Fw (m:=i%2) (t:=fO y) rfl rfl (by omega) (by omega) hy (.inl rfl) rfl ?_;dsimp only [aD,aC,IJ,List.drop,List.take];apply aA (eS x y A B hxf hyf) rfl;apply bP (us:=[rC (.of (x.q*y.q))]) rfl;refine qQ (ts:=rR ((rD a b c d).take i)) (us:=[rC (.of (x.q*y.q))]) (vs:=rR ((rD a b c d).take (i+1))) rfl rfl (by rw [List.take_add_one,hxy];simp) (by simp;omega) (by simp [maxLen];omega) ?_;dsimp only [aD,aC];apply vn (aB) rfl;dsimp only [aD,aC];exact aR rfl ⟨⟨i+1,by omega⟩,aN.rfl,by show 4-(i+1)<4-i;omega⟩
 obtain rfl:i=4:=by omega
 apply aA (We (rD a b c d) (A+B) hp (by omega) (by omega) (by simp)) rfl;apply aA (Mh (rD a b c d) (A+B) hp (by omega) (by omega) (by simp)) rfl;exact aK rfl
theorem Yo (a b c d:RQ) (A B:Nat) (h1:1≤A) (ha:Fit A a.q) (hb:Fit A b.q) (hc:Fit B c.q) (hd:Fit B d.q) (h:A+B≤1073741824:=by omega):aM prog 166 [(tR a b:aE),(tR c d:aE)] (.ret [tR (Eg a b c d) (DI a b c d)]):=by
 refine bZ func166 ZW ?_;apply aA (aq0 a b c d A B h1 ha hb hc hd h) rfl;exact aK rfl
end Go.Sy
