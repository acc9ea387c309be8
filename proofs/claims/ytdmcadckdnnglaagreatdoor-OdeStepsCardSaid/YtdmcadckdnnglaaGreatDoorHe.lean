/- Steps. -/
import Derived.Test.YtdmcadckdnnglaaGreatDoorHd
import Derived.Test.YtdmcadckdnnglaaGreatDoorGb
set_option linter.unusedVariables false
set_option linter.unusedSimpArgs false
namespace Go.Sy
open Go Go.Proofs Tryz Ord
def Ng:Tr:=aU .add 3 32 1 11 0 3 (.back 1 [lV 14 0,lV 17 0])
def Wl:Tr:=.split (.u 16 0) (.split (.u 14 0) (aK 152 [(.agg [(U 0 0),(U 0 1),(U 0 2),(U 0 3),(U 0 4),(U 0 5),(U 0 6)]),(W 11 0),(W 8 0),(W 15 0),(G4 1)] [(some 4)] [42,43,44,45,46] [214,3,3,3,49] 49 false (aK 47 [(G4 17),(G4 6)] [none] [47,48] [49,49] 3 true (aU .leq 3 49 0 18 0 4 (aU .add 3 40 1 15 0 3 (.back 2 [lV 19 0,lV 20 0]))))) Ng) Ng
def MU:Tr:=aU .add 3 22 1 8 0 3 (.back 0 [lV 7 0,lV 14 0])
def az7:Tr:=.loop 1 [(.w (.one (.c (.k (.bool true))))),lK 0] (cB 0 6 26 212 (bJ .lss 3 24 27 11 0 12 0 4 (.split (.u 13 0) (.split (.u 10 0) (.loop 2 [lV 10 0,lK 0] (bJ .leq 3 34 35 15 0 2 0 4 Wl)) MU) (.split (.u 10 0) (.ret [(W 8 0)]) MU))))
def ZK:Tr:=aK 230 [(W 3 0)] [(some 4)] [14] [3] 49 true (.need (.call 79 [(WK 1),(WK 4)] [(some 4)]) (.call ⟨.value (.func 79),#[(.const (I3 1)),(.const (I3 4))],#[2,2]⟩) 49 true (aK 104 [(G4 4),(G4 5)] [(some 4)] [15,16] [49,49] 49 true (.loop 0 [lK 0,lV 0 5] (aU .leq 3 20 1500 8 0 4 (.split (.u 9 0) az7 (.ret [(WK 0)]))))))
theorem Qy:aN prog f150 (fun _=>none) [.v (some 7), .v (some 4), .v none, .v none]=ZK:=by kernel_rfl
section
variable {E:List (List Rat)} {ER:List (List RQ)} {X:Rat} {XR:RQ}
theorem ay8 (l:List Rat):(l.map RQ.of).map RQ.q=l:=by
 rw [List.map_map];exact (List.map_congr_left fun x _=>rfl).trans (List.map_id l)
theorem ac9 (n l:Nat):(uH E X n l).map RQ.q=aV (bH E X) (E.length-1) (aQ E X) (bK (E.length-1) l) n:=ay8 _
theorem Ag (h:SmallX E ER X XR) (hr:iK E X) {aJ t:Rat} {st:Nat} {k:Int} (S:rI E X aJ st t k) {l n i:Nat} (hl:l<E.length-1) (hn1:st≤n) (hn2:n≤1500) (hi:i<E.length-1) :
  aM prog 152 [.agg (ZU (yJ ER XR) (.of aJ) (st:Nat) (Ax E X st (E.length-1))), .one (.int .i64 l), .one (.int .i64 n), .one (.int .i64 i),dE (.of t.abs)]
   (.ret [dE (.of (fX (rL (bH E X) (E.length-1) (aQ E X) aJ st l) aJ n i t.abs))]):=by
 have T:=h.IX hr S hi;obtain ⟨h2,h5,hld,_⟩:=hr.facts;have S':=S;obtain ⟨hh,hh62,rfl,hst,hW⟩:=dY (by omega) S.hv;have hst2:=S.xK;have hel:E.length=ER.length:=by have:=h.sim.1;rwa [iD] at this
 have hsl:(yJ ER XR).length=E.length:=by rw [yJ,List.length_map,hel]
 have hul:(uH E X st l).length=st:=by rw [uH,List.length_map];exact bM _ _ _ _ _
 have hd:=Yx (yJ ER XR) (.of (bD hh)) st l n i (Ax E X st (E.length-1)) (uH E X st l) (.of t.abs) 46160011 (by rw [Ax,List.getElem?_map,List.getElem?_range hl];rfl) (fun p hp=>by
   have hp2:p.map RQ.q∈bH E X:=by rw [←h.sh,fG];exact List.mem_map_of_mem hp
   have:=(h.NY _ hp2).1;rw [List.length_map] at this;omega) (by omega) (by omega) (gE S.tb.abs hh62 hn2 (by omega) (by decide)) hn1 (by rw [h.sh,hsl];omega) (by omega) (by omega) (by rw [Ax,List.length_map,List.length_range];omega) (fun x hx=>by
   obtain ⟨y,hy,rfl⟩:=List.mem_map.1 hx;exact yF (h.TQ hr l) (by omega) hy) (by omega) (by omega) (vW hh) (by decide) (by decide) (T.sh n hn1 hn2 i (Nat.le_refl _))
 rw [h.sh,hsl,ac9] at hd;exact hd
end
theorem quarter:((1:Int):Rat)/((4:Int):Rat)=mkRat 1 (2^2):=by decide +kernel
set_option maxHeartbeats 1000000 in
theorem JB (E:List (List Rat)) (ER:List (List RQ)) (X:Rat) (XR:RQ) (h:SmallX E ER X XR) (hr:iK E X) (aJ t:Rat) (st:Nat) (k:Int) (S:rI E X aJ st t k) (d:Nat) (hd:d<E.length-1):aM prog 150 [(.agg (ZU (yJ ER XR) (.of aJ) (st:Nat) (Ax E X st (E.length-1))):aF),(dE (.of t.abs):aF),(.one (.int .i64 d):aF),(.one (.int .i64 k):aF)] (.ret [.one (.int .i64 (((fB E X aJ st t d k).getD 0:Nat)))]):=by
 refine aD (args:=[.v (some 7), .v (some 4), .v none, .v none]) (ins:=[.v (.agg (ZU (yJ ER XR) (.of aJ) (st:Nat) (Ax E X st (E.length-1)))), .v (dE (.of t.abs)), .v (.one (.int .i64 d)), .v (.one (.int .i64 k))]) (hints:=(fun _=>none)) fo (by kernel_rfl) func150 ⟨rfl,rfl,rfl,rfl,trivial⟩ ?_;rw [Qy];dsimp only [List.map,In.env,aB,aA];have h25:=hr.facts;have hk:=S.k256;have hst2:=S.xK;have L:=h.FX hr S hd;have T:=h.IX hr S hd;have hbl:(Ax E X st (E.length-1)).length=E.length-1:=by rw [Ax,List.length_map,List.length_range]
 refine aC (Vb k hk) rfl ?_;dsimp only [aB,aA];refine aC (Hl 1 4 (by omega) (by omega) (by omega) (by omega) (by omega)) rfl ?_;dsimp only [aB,aA];refine aC (eW (.of (mkRat 1 (2^k.toNat))) (.of (((1:Int):Rat)/((4:Int):Rat))) 257 64 (qM (by omega)) (by rw [RQ.rM,quarter];decide) (by omega)) rfl ?_;rw [show (RQ.of (mkRat 1 (2^k.toNat))).q*(RQ.of (((1:Int):Rat)/((4:Int):Rat))).q=mG k by rw [RQ.rM,RQ.rM,quarter];rfl];dsimp only [aB,aA];refine bC {n:Nat // st≤n∧n≤1501∧∀ n',st≤n'→n'<n→¬ ∀ l,l<E.length-1→KY (bH E X) (E.length-1) (aQ E X) aJ st t.abs (mG k) d l n'=true} (fun g=>[.one (.int .i64 0), .one (.int .i64 g.1)]) (fun g=>1501-g.1) ⟨st,Nat.le_refl _,by omega,fun n' h1 h2=>by omega⟩ aO.rfl (fun _=>rfl) ?_;rintro ⟨n,hn1,hn2,hno⟩;dsimp only [aB,aA] at hn1 hn2 hno ⊢;refine vn fV rfl ?_;dsimp only [aB,aA];refine vs _ rfl (fun h5=>?_) (fun h5=>?_)
 ·refine bC {g:Bool×Nat // g.2≤E.length-1∧(g.1=true↔∀ l,l<g.2→KY (bH E X) (E.length-1) (aQ E X) aJ st t.abs (mG k) d l n=true)} (fun g=>[.one (.bool g.1.1), .one (.int .i64 g.1.2)]) (fun g=>E.length-1-g.1.2) ⟨(true,0),Nat.zero_le _,by simp⟩ aO.rfl (fun _=>rfl) ?_;rintro ⟨⟨b,l⟩,hl,hb⟩;dsimp only [aB,aA] at hl hb ⊢;refine vn (aP Zk (List.length_map _)) rfl ?_;rw [hbl];dsimp only [aB,aA];refine vn bB rfl ?_;dsimp only [aB,aA];refine vs _ rfl (fun h9=>?_) (fun h9=>?_)
  ·refine rA b rfl (fun hbt=>?_) (fun hbf=>?_)
   ·subst hbt;have hlm:l<E.length-1:=by omega
    refine bC {g:Bool×Nat // g.2≤d+1∧(g.1=true↔∀ i,i<g.2→fX (rL (bH E X) (E.length-1) (aQ E X) aJ st l) aJ n i t.abs≤mG k)∧(g.1=false→∃ i,i≤d∧¬ fX (rL (bH E X) (E.length-1) (aQ E X) aJ st l) aJ n i t.abs≤mG k)} (fun g=>[.one (.bool g.1.1), .one (.int .i64 g.1.2)]) (fun g=>d+1-g.1.2) ⟨(true,0),Nat.zero_le _,by simp,fun e=>by cases e⟩ aO.rfl (fun _=>rfl) ?_;rintro ⟨⟨b2,i⟩,hi,hb2,hb3⟩;dsimp only [aB,aA] at hi hb2 hb3 ⊢;refine vn fV rfl ?_;dsimp only [aB,aA];refine vs _ rfl (fun h13=>?_) (fun h13=>?_)
    ·refine rA b2 rfl (fun hbt2=>?_) (fun hbf2=>?_)
     ·subst hbt2;have hid:i≤d:=by omega
      refine aC (Ag h hr S hlm hn1 (by omega) (by omega)) rfl ?_;dsimp only [aB,aA];refine aC (BM (.of (fX (rL (bH E X) (E.length-1) (aQ E X) aJ st l) aJ n i t.abs)) (.of (mG k)) 200000000 200000000 (T.ft l hlm n hn1 (by omega) i hid) T.gf (by omega)) rfl ?_;rw [show lE (RQ.of (fX (rL (bH E X) (E.length-1) (aQ E X) aJ st l) aJ n i t.abs)).q (RQ.of (mG k)).q=lE (fX (rL (bH E X) (E.length-1) (aQ E X) aJ st l) aJ n i t.abs) (mG k) from rfl];dsimp only [aB,aA];refine vn fV rfl ?_;dsimp only [aB,aA];refine vn (aE (by omega) (by omega)) rfl ?_;dsimp only [aB,aA]
      exact aR rfl ⟨⟨(decide (lE (fX (rL (bH E X) (E.length-1) (aQ E X) aJ st l) aJ n i t.abs) (mG k)≤0),i+1),by dsimp only;omega,by
       dsimp only;rw [decide_eq_true_iff,fZ];refine ⟨fun h1 j hj=>?_,fun h1=>h1 i (by omega)⟩;rcases Nat.lt_or_ge j i with h3 | h3
       ·exact hb2.1 rfl j h3
       ·rw [show j=i by omega];exact h1,fun e=>⟨i,hid,fun h1=>of_decide_eq_false e (fZ.2 h1)⟩⟩,aO.rfl,by show d+1-(i+1)<d+1-i;omega⟩
     refine vn (aE (by omega) (by omega)) rfl ?_;dsimp only [aB,aA];subst hbf2
     exact aR rfl ⟨⟨(false,l+1),by dsimp only;omega,by
      dsimp only;refine ⟨fun e=>(by cases e),fun h1=>?_⟩;obtain ⟨i',hi',hno'⟩:=hb3 rfl;have h4:=h1 l (by omega);unfold KY kU at h4;rw [List.all_eq_true] at h4;exact (hno' (of_decide_eq_true (h4 i' (List.mem_range.2 (by omega))))).elim⟩,aO.rfl,by show E.length-1-(l+1)<E.length-1-l;omega⟩
    refine vn (aE (by omega) (by omega)) rfl ?_;dsimp only [aB,aA];have hid:i=d+1:=by omega
    subst hid
    exact aR rfl ⟨⟨(b2,l+1),by dsimp only;omega,by
     dsimp only;rw [hb2]
     have e:KY (bH E X) (E.length-1) (aQ E X) aJ st t.abs (mG k) d l n=true↔∀ i,i<d+1→fX (rL (bH E X) (E.length-1) (aQ E X) aJ st l) aJ n i t.abs≤mG k:=by
      unfold KY kU;rw [List.all_eq_true];exact ⟨fun h1 i hi=>of_decide_eq_true (h1 i (List.mem_range.2 hi)),fun h1 i hi=>decide_eq_true (h1 i (List.mem_range.1 hi))⟩
     rw [←e];refine ⟨fun h1 l' hl'=>?_,fun h1=>h1 l (by omega)⟩;rcases Nat.lt_or_ge l' l with h3 | h3
     ·exact hb.1 rfl l' h3
     ·rw [show l'=l by omega];exact h1⟩,aO.rfl,by show E.length-1-(l+1)<E.length-1-l;omega⟩
   refine vn (aE (by omega) (by omega)) rfl ?_;dsimp only [aB,aA];subst hbf
   exact aR rfl ⟨⟨n+1,by omega,by omega,fun n' h1 h2 hall=>by
    rcases Nat.lt_or_ge n' n with h3 | h3
    ·exact hno n' h1 h3 hall
    ·rw [show n'=n by omega] at hall;have:=hb.2 (fun l' hl'=>hall l' (by omega));cases this⟩,aO.rfl,by show 1501-(n+1)<1501-n;omega⟩
  refine rA b rfl (fun hbt=>?_) (fun hbf=>?_)
  ·subst hbt;have hlm:l=E.length-1:=by omega
   subst hlm;obtain ⟨N,hN,hNn⟩:=(L.iff n hn1 (by omega)).1 (hb.1 rfl);have hN1:=L.some N hN
   have hNe:N=n:=by
    rcases Nat.lt_or_ge N n with h3 | h3
    ·exact (hno N hN1.1 h3 ((L.iff N hN1.1 hN1.2).2 ⟨N,hN,Nat.le_refl _⟩)).elim
    ·omega
   rw [hN,hNe];exact aL rfl
  refine vn (aE (by omega) (by omega)) rfl ?_;dsimp only [aB,aA];subst hbf;have hlm:l=E.length-1:=by omega
  subst hlm
  exact aR rfl ⟨⟨n+1,by omega,by omega,fun n' h1 h2 hall=>by
   rcases Nat.lt_or_ge n' n with h3 | h3
   ·exact hno n' h1 h3 hall
   ·rw [show n'=n by omega] at hall;have:=hb.2 hall;cases this⟩,aO.rfl,by show 1501-(n+1)<1501-n;omega⟩
 have hn:n=1501:=by omega
 have hnone:fB E X aJ st t d k=none:=by
  cases ho:fB E X aJ st t d k with
  | none=>rfl
  | some N=>
    have hN1:=L.some N ho;exact (hno N hN1.1 (by omega) ((L.iff N hN1.1 hN1.2).2 ⟨N,ho,Nat.le_refl _⟩)).elim
 rw [hnone];exact aL rfl
open Go Go.Proofs Tryz Ord
def Px:Tr:=.ret [(.one (.c (.k (.slice none 0 0)))),(WK 1)]
def YH:Tr:=aK 103 [(W 22 0),(W 13 0)] [(some 4)] [71,72] [3,3] 49 false (eD 20 0 22 0 50 74 75 (dI 30 0 (some 4) 49 76 (aK 104 [(G4 29),(G4 31)] [(some 4)] [73,77] [49,49] 49 true (aK 48 [(G4 28),(G4 32)] [(some 4)] [70,78] [49,49] 49 true (aU .sub 3 66 1 22 0 3 (.back 2 [lV 34 0,lV 33 0,lV 33 1,lV 33 2,lV 33 3]))))))
def Xa:Tr:=aK 141 [(.agg [(U 23 0),(U 24 0),(U 25 0),(U 26 0)]),(G4 28)] [(some 4)] [87,88] [49,49] 49 false (aK 48 [(.agg [(U 23 0),(U 24 0),(U 25 0),(U 26 0)]),(G4 28)] [(some 4)] [90,91] [49,49] 49 false (aK 153 [(.agg [(U 29 0),(U 29 1),(U 29 2),(U 29 3),(U 30 0),(U 30 1),(U 30 2),(U 30 3)]),(W 3 0)] [(some 8)] [93,94] [140,3] 140 true (.need (.lit 8 [[(.u 31 0),(.u 31 1),(.u 31 2),(.u 31 3),(.u 31 4),(.u 31 5),(.u 31 6),(.u 31 7)]]) (.buildSlice 119 1 #[(0,(tT 95))]) 119 false (.need (.app 8 128 (some 17) none (some 32)) (.call ⟨.builtin .append,#[(tT 86),(tT 96)],#[119,119]⟩) 119 false (aU .add 3 52 1 16 0 3 (.back 1 [lV 34 0, .row 33]))))))
def Yk:Tr:=aK 151 [(W 8 0),(W 16 0)] [none] [56,57] [3,3] 50 false (aK 28 [(W 4 0),(W 19 0),(W 11 0)] [none] [55,58,59] [44,50,3] 50 true (aU .sub 3 61 1 11 0 3 (.loop 2 [lV 21 0,lK 0,lN,lK 0,lN] (bJ .geq 3 63 64 22 0 13 0 4 (.split (.u 27 0) (aK 104 [(.agg [(U 23 0),(U 24 0),(U 25 0),(U 26 0)]),(G4 2)] [(some 4)] [68,69] [49,49] 49 false YH) (aK 152 [(.agg [(U 4 0),(U 4 1),(U 4 2),(U 4 3),(U 4 4),(U 4 5),(U 4 6)]),(W 16 0),(W 11 0),(W 13 0),(G4 9)] [(some 4)] [80,81,82,83,84] [214,3,3,3,49] 49 true Xa))))))
def Yb:Tr:=.loop 1 [lK 0, .nilrow] (bJ .lss 3 49 50 16 0 8 0 4 (.split (.u 18 0) Yk (.need (.lit 1 [[(.sr 8 17)]]) (.buildSlice 113 1 #[(0,(tT 99))]) 113 false (.need (.app 1 24 (some 14) none (some 19)) (.call ⟨.builtin .append,#[(tT 98),(tT 100)],#[113,113]⟩) 113 false (aU .add 3 47 1 13 0 3 (.back 0 [lV 21 0, .row 20]))))))
def ad3:Tr:=aK 150 [(.agg [(U 4 0),(U 4 1),(U 4 2),(U 4 3),(U 4 4),(U 4 5),(U 4 6)]),(G4 9),(W 10 0),(W 3 0)] [none] [36,37,39,40] [214,49,3,3] 3 true (aU .eql 3 42 0 11 0 4 (.split (.u 12 0) Px (.loop 0 [lK 0, .nilrow] (bJ .lss 3 44 45 13 0 8 0 4 (.split (.u 15 0) Yb (.ret [(.one (.c (.sr 1 14))),(WK 0)]))))))
def ax0:Tr:=aK 149 [(W 0 0),(G4 1)] [(some 7),none] [24,25] [44,49] 215 false (.need (.prim [(W 5 0)] none) (.unOp .not 4 (tT 29)) 4 false (.split (.u 6 0) Px (cB 0 0 31 44 (aU .sub 3 32 1 7 0 3 (aK 60 [(G4 2)] [(some 4)] [34] [49] 49 true (aU .sub 3 38 1 8 0 3 ad3))))))
theorem FF:aN prog f61 (fun _=>none) [.v none, .v (some 4), .v (some 4), .v none]=ax0:=by kernel_rfl
def aw3:Tr:=.need (.lit 1 [[(.k (.int .i64 0))],[(.k (.int .i64 5))],[(.k (.int .i64 14))]]) (.buildSlice 221 3 #[(0,(.const (I3 0))),(1,(.const (I3 5))),(2,(.const (I3 14)))]) 221 false (.need (.idx 1 (.u 0 0)) (.indexAddr 221 (tT 3) (tT 4)) 0 false (.need (.ldrow 1 (.u 0 0) 0 1 false) (.load 55 (tT 5)) 55 false (.ret [(W 2 0)])))
theorem ag5:aN prog f62 (fun _=>none) [.v none]=aw3:=by kernel_rfl
abbrev Pn (q:List (List Rat)) (m:Nat) (lead aJ:Rat) (st:Nat) (t:Rat) (k:Int) (n d j:Nat):List (List aH):=(List.range j).map fun l=>Oa (.of (Gc q m lead aJ st t k n d l)) (.of (Gl q m lead aJ st t k n d l))
abbrev Xu (q:List (List Rat)) (m:Nat) (lead aJ:Rat) (st:Nat) (t:Rat) (k:Int) (n i:Nat):List (List aH):=(List.range i).map fun d=>[.slice 8 (Pn q m lead aJ st t k n d m)]
set_option maxHeartbeats 1000000 in
theorem Ld (E:List (List Rat)) (ER:List (List RQ)) (X:Rat) (XR u:RQ) (h:SmallX E ER X XR) (hr:iK E X) (aJ t:Rat) (st:Nat) (k:Int) (S:rI E X aJ st t k) (hu:u.q=t) (hN:fB E X aJ st t (E.length-1-1) k=none):aM prog 61 [(.one (eR ER):aF),(dE XR:aF),(dE u:aF),(.one (.int .i64 k):aF)] (.ret [.one (.exact (.slice none 0 0)), .one (.int .i64 1)]):=by
 refine aD (args:=[.v none, .v (some 4), .v (some 4), .v none]) (ins:=[.v (.one (eR ER)), .v (dE XR), .v (dE u), .v (.one (.int .i64 k))]) (hints:=(fun _=>none)) fo (by kernel_rfl) func61 ⟨rfl,rfl,rfl,rfl,trivial⟩ ?_;rw [FF];dsimp only [List.map,In.env,aB,aA];have h25:=hr.facts;have hst2:=S.xK;have hel:E.length=ER.length:=by have:=h.sim.1;rwa [iD] at this
 have hst0:1≤st:=by
  obtain ⟨hh,hh62,_,hst,hW⟩:=dY (by omega) S.hv;omega
 refine aC (Sa E ER X XR h hr aJ st S.hv (by omega) hst0) rfl ?_;dsimp only [aB,aA];refine vn gX rfl ?_;dsimp only [aB,aA];refine rA false rfl (fun h=>by cases h) (fun _=>?_);refine vn (aP jN (List.length_map _)) rfl ?_;dsimp only [aB,aA];refine vn (aG (by omega) (by omega)) rfl ?_;dsimp only [aB,aA];refine aC (rV u) rfl ?_;rw [hu,←hel,show (E.length:Int)-1=((E.length-1:Nat):Int) by omega];dsimp only [aB,aA];refine vn (aG (by omega) (by omega)) rfl ?_;dsimp only [aB,aA];rw [show ((E.length-1:Nat):Int)-1=((E.length-1-1:Nat):Int) by omega];refine aC (JB E ER X XR h hr aJ t st k S (E.length-1-1) (by omega)) rfl ?_;rw [hN];dsimp only [aB,aA];refine vn bL rfl ?_;rw [show decide (((Option.getD none 0:Nat):Int)=0)=true from rfl];dsimp only [aB,aA];refine rA true rfl (fun _=>?_) (fun h=>by cases h);exact aL rfl
set_option maxHeartbeats 2000000 in
theorem Li (E:List (List Rat)) (ER:List (List RQ)) (X:Rat) (XR u:RQ) (h:SmallX E ER X XR) (hr:iK E X) (aJ t:Rat) (st:Nat) (k:Int) (S:rI E X aJ st t k) (hu:u.q=t) (N:Nat) (hN:fB E X aJ st t (E.length-1-1) k=some N):aM prog 61 [(.one (eR ER):aF),(dE XR:aF),(dE u:aF),(.one (.int .i64 k):aF)] (.ret [.one (.slice 1 (Xu (bH E X) (E.length-1) (aQ E X) aJ st t k N (E.length-1))), .one (.int .i64 0)]):=by
 refine aD (args:=[.v none, .v (some 4), .v (some 4), .v none]) (ins:=[.v (.one (eR ER)), .v (dE XR), .v (dE u), .v (.one (.int .i64 k))]) (hints:=(fun _=>none)) fo (by kernel_rfl) func61 ⟨rfl,rfl,rfl,rfl,trivial⟩ ?_;rw [FF];dsimp only [List.map,In.env,aB,aA];have h25:=hr.facts;have hst2:=S.xK;have hk2:=S.k256;have hel:E.length=ER.length:=by have:=h.sim.1;rwa [iD] at this
 have hst0:1≤st:=by
  obtain ⟨hh,hh62,_,hst,hW⟩:=dY (by omega) S.hv;omega
 have hN1:=(h.FX hr S (d:=E.length-1-1) (by omega)).some N hN;have M:=h.ZT hr S hN1.1 hN1.2;have hul:∀ l,(uH E X N l).length=N:=fun l=>by rw [uH,List.length_map];exact bM _ _ _ _ _
 refine aC (Sa E ER X XR h hr aJ st S.hv (by omega) (by omega)) rfl ?_;dsimp only [aB,aA];refine vn gX rfl ?_;dsimp only [aB,aA];refine rA false rfl (fun h=>by cases h) (fun _=>?_);refine vn (aP jN (List.length_map _)) rfl ?_;dsimp only [aB,aA];refine vn (aG (by omega) (by omega)) rfl ?_;dsimp only [aB,aA];refine aC (rV u) rfl ?_;rw [hu,←hel,show (E.length:Int)-1=((E.length-1:Nat):Int) by omega];dsimp only [aB,aA];refine vn (aG (by omega) (by omega)) rfl ?_;dsimp only [aB,aA];rw [show ((E.length-1:Nat):Int)-1=((E.length-1-1:Nat):Int) by omega];refine aC (JB E ER X XR h hr aJ t st k S (E.length-1-1) (by omega)) rfl ?_;rw [hN];dsimp only [aB,aA];refine vn bL rfl ?_;rw [show decide (((Option.getD (some N) 0:Nat):Int)=0)=false from decide_eq_false (by rw [Option.getD_some];omega),Option.getD_some];dsimp only [aB,aA];refine rA false rfl (fun h=>by cases h) (fun _=>?_);refine bC {d:Nat // d≤E.length-1} (fun g=>[.one (.int .i64 g.1), .rows (Xu (bH E X) (E.length-1) (aQ E X) aJ st t k N g.1)]) (fun g=>E.length-1-g.1) ⟨0,Nat.zero_le _⟩ aO.rfl (fun _=>rfl) ?_;rintro ⟨d,hd⟩;dsimp only [aB,aA] at hd ⊢;refine vn bB rfl ?_;dsimp only [aB,aA];refine vs _ rfl (fun h14=>?_) (fun h14=>?_)
 ·have hd1:d<E.length-1:=by omega
  refine bC {l:Nat // l≤E.length-1} (fun g=>[.one (.int .i64 g.1), .rows (Pn (bH E X) (E.length-1) (aQ E X) aJ st t k N d g.1)]) (fun g=>E.length-1-g.1) ⟨0,Nat.zero_le _⟩ aO.rfl (fun _=>rfl) ?_;rintro ⟨l,hl⟩;dsimp only [aB,aA] at hl ⊢;refine vn bB rfl ?_;dsimp only [aB,aA];refine vs _ rfl (fun h17=>?_) (fun h17=>?_)
  ·have hl1:l<E.length-1:=by omega
   refine aC (LJ (E.length-1) l (by omega) (by omega)) rfl ?_;dsimp only [aB,aA];have hs:=h.My hr l N (by omega) hN1.2;rw [show (aV (bH E X) (E.length-1) (aQ E X) (bK (E.length-1) l) N).map RQ.of=uH E X N l from rfl] at hs;refine aC hs rfl ?_;dsimp only [aB,aA];refine vn (aG (by omega) (by omega)) rfl ?_;dsimp only [aB,aA];refine bC {g:Nat×RQ // g.1≤N-d∧g.2.q=gP t (aV (bH E X) (E.length-1) (aQ E X) (bK (E.length-1) l) N) d N g.1} (fun g=>(.one (.int .i64 ((N:Int)-1-g.1.1)):aF)::(rC g.1.2).map aF.one) (fun g=>N-d-g.1.1) ⟨(0, .nil),Nat.zero_le _,rfl⟩ ⟨by rw [show ((N:Int)-1-((0:Nat):Int))=(N:Int)-1 by omega];exact aF.Sub.same,jL.1,jL.2.1,jL.2.2.1,jL.2.2.2.1,trivial⟩ (fun _=>rfl) ?_;rintro ⟨⟨c,s⟩,hc,hs⟩;dsimp only [aB,aA,List.map] at hc hs ⊢;refine vn eH rfl ?_;dsimp only [aB,aA];refine vs _ rfl (fun h23=>?_) (fun h23=>?_)
   ·have hc1:c<N-d:=by omega
    have fs:=M.fs l hl1 d hd1 c (by omega);rw [←hs] at fs
    have hx:(uH E X N l)[N-1-c]? = some (.of ((aV (bH E X) (E.length-1) (aQ E X) (bK (E.length-1) l) N).getD (N-1-c) 0)):=by
     have hcl:=bM (bH E X) (E.length-1) (aQ E X) (bK (E.length-1) l) N;rw [uH,List.getElem?_map,List.getD_eq_getElem?_getD,List.getElem?_eq_getElem (by omega)];rfl
    refine aC (eW s u 400000000 513 fs (by rw [hu];exact S.tf) (by omega)) rfl ?_;rw [hu];dsimp only [aB,aA];rw [show (N:Int)-1-(c:Int)=((N-1-c:Nat):Int) by omega];refine aC (mA ((N-1-c:Nat):Int) d 100000000 (by omega) (by omega) (by omega) (by omega) (by omega) (fun j hj=>M.ff (N-1-c) (by omega) d hd1 j hj)) rfl ?_;dsimp only [aB,aA];refine vn (aW La (by omega) (Int.toNat_natCast (N-1-c)) hx) rfl ?_;dsimp only [aB,aA];refine vn (bO qG (by decide) (by simp) (.inl rfl)) rfl ?_;dsimp only [aB,aA]
    refine aC (eW _ (.of ((aV (bH E X) (E.length-1) (aQ E X) (bK (E.length-1) l) N).getD (N-1-c) 0)) 100000000 400000000 (M.ff (N-1-c) (by omega) d hd1 d (Nat.le_refl _)) (M.fc l hl1 _ (by
     have hcl:=bM (bH E X) (E.length-1) (aQ E X) (bK (E.length-1) l) N;rw [List.getD_eq_getElem?_getD,List.getElem?_eq_getElem (by omega)];exact List.getElem_mem _)) (by omega)) rfl ?_
    dsimp only [aB,aA]
    refine aC (jU (.of (s.q*t)) (.of _) 400000513 500000000 ((fs.mul S.tf).mono (by omega)) (((M.ff (N-1-c) (by omega) d hd1 d (Nat.le_refl _)).mul (M.fc l hl1 _ (by
     have hcl:=bM (bH E X) (E.length-1) (aQ E X) (bK (E.length-1) l) N;rw [List.getD_eq_getElem?_getD,List.getElem?_eq_getElem (by omega)];exact List.getElem_mem _))).mono (by omega)) (by omega)) rfl ?_
    dsimp only [aB,aA];refine vn (aG (by omega) (by omega)) rfl ?_;dsimp only [aB,aA]
    exact aR rfl ⟨⟨(c+1,_),by dsimp only;omega,by
     dsimp only;rw [RQ.rM,RQ.rM,RQ.rM,hs];show _=gP t _ d N c*t+_*_;rw [Rat.mul_comm (((bG ((N-1-c:Nat):Int) d:Int):Rat))];rfl⟩,⟨by rw [show ((N:Int)-1-((c+1:Nat):Int))=((N-1-c:Nat):Int)-1 by omega];exact aF.Sub.same,aF.Sub.same,aF.Sub.same,aF.Sub.same,aF.Sub.same,trivial⟩,by show N-d-(c+1)<N-d-c;omega⟩
   have hce:c=N-d:=by omega
   subst hce;have fs:=M.fs l hl1 d hd1 (N-d) (Nat.le_refl _);have ft:=M.ft l hl1 d hd1;refine aC (Ag h hr S hl1 hN1.1 hN1.2 hd1) rfl ?_;dsimp only [aB,aA];refine aC (TS s _ 400000000 200000000 (by rw [hs];exact fs) ft (by omega)) rfl ?_;dsimp only [aB,aA];refine aC (jU s _ 400000000 200000000 (by rw [hs];exact fs) ft (by omega)) rfl ?_;dsimp only [aB,aA];refine aC (ax3 _ _ k 1000000000 hk2 ((by rw [hs];exact (fs.sub ft).mono (by omega))) ((by rw [hs];exact (fs.add ft).mono (by omega))) (by omega)) rfl ?_;rw [RQ.rM,RQ.rM,RQ.rM,hs,Rat.sub_eq_add_neg];dsimp only [aB,aA];refine cL (us:=[Oa (.of (Gc (bH E X) (E.length-1) (aQ E X) aJ st t k N d l)) (.of (Gl (bH E X) (E.length-1) (aQ E X) aJ st t k N d l))]) rfl ?_;dsimp only [aB,aA];refine jQ (xs:=List.range l) (x:=l) (f:=fun l=>Oa (.of (Gc (bH E X) (E.length-1) (aQ E X) aJ st t k N d l)) (.of (Gl (bH E X) (E.length-1) (aQ E X) aJ st t k N d l))) rfl rfl (by rw [List.length_range];omega) (by simp only [maxLen];rw [List.length_range];omega) ?_;rw [←List.range_succ];dsimp only [aB,aA];refine vn (aE (by omega) (by omega)) rfl ?_;dsimp only [aB,aA];exact aR rfl ⟨⟨l+1,by omega⟩,aO.rfl,by show E.length-1-(l+1)<E.length-1-l;omega⟩
  obtain rfl:l=E.length-1:=by omega
  refine cL (us:=[[.slice 8 (Pn (bH E X) (E.length-1) (aQ E X) aJ st t k N d (E.length-1))]]) rfl ?_;dsimp only [aB,aA];refine jQ (xs:=List.range d) (x:=d) (f:=fun d=>[.slice 8 (Pn (bH E X) (E.length-1) (aQ E X) aJ st t k N d (E.length-1))]) rfl rfl (by rw [List.length_range];omega) (by simp only [maxLen];rw [List.length_range];omega) ?_;rw [←List.range_succ];dsimp only [aB,aA];refine vn (aE (by omega) (by omega)) rfl ?_;dsimp only [aB,aA];exact aR rfl ⟨⟨d+1,by omega⟩,aO.rfl,by show E.length-1-(d+1)<E.length-1-d;omega⟩
 obtain rfl:d=E.length-1:=by omega
 exact aL rfl
theorem ac5  :aM prog 62 [(.one (.int .i64 1):aF)] (.ret [.one (.int .i64 5)]):=by
 refine aD (args:=[.v none]) (ins:=[.v (.one (.int .i64 1))]) (hints:=(fun _=>none)) fo (by kernel_rfl) func62 ⟨rfl,trivial⟩ ?_;rw [ag5];dsimp only [List.map,In.env,aB,aA];refine cL rfl ?_;dsimp only [aB,aA];refine kX (ik:=.i64) (n:=1) (ts:=[[.int .i64 0],[.int .i64 5],[.int .i64 14]]) rfl rfl (by decide) (by decide) ?_;refine vld (ik:=.i64) (n:=1) (ts:=[[.int .i64 0],[.int .i64 5],[.int .i64 14]]) (cells:=[.int .i64 5]) (t:=.one (.int .i64 5)) rfl rfl (by decide) rfl (.inr rfl) rfl ?_;exact aL rfl
end Go.Sy
