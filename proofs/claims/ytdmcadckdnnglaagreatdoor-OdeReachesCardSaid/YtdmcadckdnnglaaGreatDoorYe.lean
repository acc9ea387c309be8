/- OdeReaches.
-/
import Derived.Test.YtdmcadckdnnglaaGreatDoorYd
set_option linter.unusedVariables false
set_option linter.unusedSimpArgs false
namespace Go.Sy
open Go Go.Proofs Tryz Ord
theorem JP {E:List (List Rat)} {X:Rat} (h:lG E = false):kP E X = (0,0,2):=by unfold kP; rw [h]; rfl
theorem JB {E:List (List Rat)} {X:Rat} (hok:lG E = true) (h:iU E X = false):kP E X = (0,0,11):=by unfold kP; rw [if_pos hok,h]; rfl
theorem Ie {E:List (List Rat)} {X:Rat} (hr:Cq E X) (h:dN (cF E X) (E.length - 1) (bH E X) = none):kP E X = (0,0,5):=by unfold kP; rw [if_pos hr.ok,if_pos hr.reg,h]
theorem GN {E:List (List Rat)} {X bG:Rat} {st:Nat} (hr:Cq E X) (h:dN (cF E X) (E.length - 1) (bH E X) = some (bG,st)):kP E X = (bG,(st:Int),0):=by unfold kP; rw [if_pos hr.ok,if_pos hr.reg,h]
set_option maxHeartbeats 4000000 in
theorem DD (c:bI) (h:c.In) (x:bP) (hx:x.In) (n:Int) (hn1:-9223372036854775808 ≤ n) (hn2:n < 9223372036854775808) (d:Int) (hd1:-9223372036854775808 ≤ d) (hd2:d < 9223372036854775808) (y:bP) (hy:y.In):aL prog 6 [(caT c:aH),(nT x:aH),(.one (.int .i64 n):aH),(.one (.int .i64 d):aH),(nT y:aH)] (.ret [.one (.bool true)]):=by
 refine aD (args:=[.v (some 8), .v (some 3), .v none, .v none, .v (some 3)]) (ins:=[.v (caT c), .v (nT x), .v (.one (.int .i64 n)), .v (.one (.int .i64 d)), .v (nT y)]) (hints:=(fun _=>none)) fo (by kernel_rfl) func6 ⟨rfl,rfl,rfl,rfl,rfl,trivial⟩ ?_
 rw [DE]
 dsimp only [List.map,In.env,aB,aA]
 have hS:=OP c h
 have hB:=fun hs=>SU c h hs
 refine aC hS rfl ?_
 dsimp only [aB,aA]
 refine vn lW rfl ?_
 dsimp only [aB,aA]
 refine uY (!c.small) rfl (fun h2=>?_) (fun h2=>?_)
 ·refine aC dY rfl ?_
  dsimp only [aB,aA]
  exact aK rfl
 have hs0:c.small = true:=by cases hh:c.small <;> simp_all
 have hC:=IX h hs0
 refine aC (uO x hx) rfl ?_
 dsimp only [aB,aA]
 refine vn lW rfl ?_
 dsimp only [aB,aA]
 refine uY (!x.short) rfl (fun h7=>?_) (fun h7=>?_)
 ·refine aC dY rfl ?_
  dsimp only [aB,aA]
  exact aK rfl
 have hxs:x.short = true:=by cases hh:x.short <;> simp_all
 refine aC (uO y hy) rfl ?_
 dsimp only [aB,aA]
 refine vn lW rfl ?_
 dsimp only [aB,aA]
 refine uY (!y.short) rfl (fun h12=>?_) (fun h12=>?_)
 ·refine aC dY rfl ?_
  dsimp only [aB,aA]
  exact aK rfl
 have hys:y.short = true:=by cases hh:y.short <;> simp_all
 have hX:=hC.toSmallX.at hx hxs
 refine aC (hB hs0) rfl ?_
 dsimp only [aB,aA]
 refine aC (Bn x hx) rfl ?_
 dsimp only [aB,aA]
 refine aC (Bn y hy) rfl ?_
 dsimp only [aB,aA]
 refine aC (FN hX) rfl ?_
 dsimp only [aB,aA]
 refine aC (Fj hC.toSmallX) rfl ?_
 dsimp only [aB,aA]
 refine vn lW rfl ?_
 dsimp only [aB,aA]
 refine uY (!lG c.E) rfl (fun hq=>?_) (fun hq=>?_)
 ·rw [JP (show lG c.E = false by simpa using hq)]
  dsimp only
  refine vn dR rfl ?_
  dsimp only [aB,aA]
  refine vs _ rfl (fun h23=>?_) (fun h23=>?_)
  ·exact absurd rfl h23
  refine vn dR rfl ?_
  dsimp only [aB,aA]
  refine vs _ rfl (fun h26=>?_) (fun h26=>?_)
  ·refine aC (dB _) rfl ?_
   dsimp only [aB,aA]
   refine vn dR rfl ?_
   dsimp only [aB,aA]
   refine vs _ rfl (fun h29=>?_) (fun h29=>?_)
   ·exact absurd rfl h29
   refine vn dR rfl ?_
   dsimp only [aB,aA]
   refine vs _ rfl (fun h32=>?_) (fun h32=>?_)
   ·exact absurd rfl h32
   rw [yV]; exact Iy (Rn.of rfl rfl rfl) (iW c hC y hy hys n d hn1 hn2 hd1 hd2)
  generalize bF.part [false,false,false,true,false,false] = tt
  exact absurd (show (2:Int) ≠ 0 by omega) h26
 have hok:lG c.E = true:=by simpa using hq
 refine aC (Db hX hok) rfl ?_
 dsimp only [aB,aA]
 refine vn lW rfl ?_
 dsimp only [aB,aA]
 refine uY (!iU c.E x.v) rfl (fun hq2=>?_) (fun hq2=>?_)
 ·rw [JB hok (show iU c.E x.v = false by simpa using hq2)]
  dsimp only
  refine vn dR rfl ?_
  dsimp only [aB,aA]
  refine vs _ rfl (fun h308=>?_) (fun h308=>?_)
  ·exact absurd rfl h308
  refine vn dR rfl ?_
  dsimp only [aB,aA]
  refine vs _ rfl (fun h311=>?_) (fun h311=>?_)
  ·refine aC (dB _) rfl ?_
   dsimp only [aB,aA]
   refine vn dR rfl ?_
   dsimp only [aB,aA]
   refine vs _ rfl (fun h314=>?_) (fun h314=>?_)
   ·exact absurd rfl h314
   refine vn dR rfl ?_
   dsimp only [aB,aA]
   refine vs _ rfl (fun h317=>?_) (fun h317=>?_)
   ·exact absurd rfl h317
   rw [uM]; exact Iy (Rn.of rfl rfl rfl) (iW c hC y hy hys n d hn1 hn2 hd1 hd2)
  generalize bF.part [false,false,false,false,true,false,false] = tt
  exact absurd (show (11:Int) ≠ 0 by omega) h311
 have hr:Cq c.E x.v:=⟨hok,by simpa using hq2⟩
 obtain ⟨hE2,hE5,_,_⟩:=hr.facts
 refine aC (vZ hX hr) rfl ?_
 dsimp only [aB,aA]
 refine vn bE rfl ?_
 dsimp only [aB,aA]
 refine vs _ rfl (fun h591=>?_) (fun h591=>?_)
 ·have hv:dN (cF c.E x.v) (c.E.length - 1) (bH c.E x.v) = none:=by
   cases hv:dN (cF c.E x.v) (c.E.length - 1) (bH c.E x.v) with
   | none=>rfl
   | some z=>
     obtain ⟨bG,st⟩:=z
     obtain ⟨_,_,_,_,hW⟩:=lS (by omega) hv
     rw [jW hv] at h591
     dsimp only at h591
     omega
  rw [Ie hr hv,oX hv]
  dsimp only
  refine vn dR rfl ?_
  dsimp only [aB,aA]
  refine vs _ rfl (fun h593=>?_) (fun h593=>?_)
  ·exact absurd rfl h593
  refine vn cP rfl ?_
  dsimp only [aB,aA]
  refine vs _ rfl (fun h596=>?_) (fun h596=>?_)
  ·exact absurd h596 (by decide)
  refine vn dR rfl ?_
  dsimp only [aB,aA]
  refine vs _ rfl (fun h887=>?_) (fun h887=>?_)
  ·refine aC (dB _) rfl ?_
   dsimp only [aB,aA]
   refine vn dR rfl ?_
   dsimp only [aB,aA]
   refine vs _ rfl (fun h890=>?_) (fun h890=>?_)
   ·exact absurd rfl h890
   refine vn dR rfl ?_
   dsimp only [aB,aA]
   refine vs _ rfl (fun h893=>?_) (fun h893=>?_)
   ·exact absurd rfl h893
   rw [vF]; exact Iy (Rn.of rfl rfl rfl) (iW c hC y hy hys n d hn1 hn2 hd1 hd2)
  generalize bF.part [false,false,false,false,false,true,false,false,false] = tt
  exact absurd (show (5:Int) ≠ 0 by omega) h887
 obtain ⟨bG,st,hv⟩:∃ bG st,dN (cF c.E x.v) (c.E.length - 1) (bH c.E x.v) = some (bG,st):=by
  cases hv:dN (cF c.E x.v) (c.E.length - 1) (bH c.E x.v) with
  | none=>rw [oX hv] at h591; exact absurd rfl h591
  | some z=>exact ⟨z.1,z.2,rfl⟩
 rw [GN hr hv,jW hv]
 dsimp only
 obtain ⟨hh,hh62,hrho,hst,hW⟩:=lS (by omega) hv
 have hrf:Fit 8388608 bG:=by rw [hrho]; exact (fI (bP.qY hys) hh62 (n:=1) (d:=0) (by omega) (by omega) (Nat.le_refl _)).o1
 refine vn cP rfl ?_
 dsimp only [aB,aA]
 refine vs _ rfl (fun h1166=>?_) (fun h1166=>?_)
 ·refine vn dR rfl ?_
  dsimp only [aB,aA]
  refine vs _ rfl (fun h1168=>?_) (fun h1168=>?_)
  ·exact absurd rfl h1168
  refine aC (Gn bG _ hrf (by omega)) rfl ?_
  dsimp only [aB,aA]
  refine vn lW rfl ?_
  dsimp only [aB,aA]
  refine uY false rfl (fun h=>by cases h) (fun _=>?_)
  refine vn dR rfl ?_
  dsimp only [aB,aA]
  refine vs _ rfl (fun h1175=>?_) (fun h1175=>?_)
  ·exact absurd rfl h1175
  refine vn dR rfl ?_
  dsimp only [aB,aA]
  refine vs _ rfl (fun h1178=>?_) (fun h1178=>?_)
  ·exact absurd rfl h1178
  rw [uI]; exact Iy (Rn.of rfl rfl rfl) (iW c hC y hy hys n d hn1 hn2 hd1 hd2)
 exact absurd (by omega) h1166
end Go.Sy
