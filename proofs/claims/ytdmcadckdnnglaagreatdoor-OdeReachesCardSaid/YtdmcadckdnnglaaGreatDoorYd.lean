/- The parts of OdeReaches. The tail of OdeReaches.
-/
import Derived.Test.YtdmcadckdnnglaaGreatDoorYc
import Derived.Test.YtdmcadckdnnglaaGreatDoorTb
set_option linter.unusedVariables false
set_option linter.unusedSimpArgs false
namespace Go.Sy
open Go Go.Proofs Tryz Ord
theorem kM (q:List Rat) (hq:q.length ≤ 2):∀ p:List Rat,(gX p q).length ≤ p.length
 | []=>Nat.le_refl _
 | a :: p=>by
   have ih:=kM q hq p
   have e:gX (a :: p) q = Ap q (gX p q) a:=rfl
   rw [e,Ap]
   have h1:=AB (sE (gX p q) q) (trim [a])
   have h2:=rL (gX p q) q
   have h3:=kG [a]
   rw [List.length_cons] at h3 ⊢
   rw [List.length_nil] at h3
   split at h2 <;> omega
theorem JC (p:List Rat) (c:Rat):cV zr (bX p c) = cV zr p:=by
 have e1:bX p c = bX (trim p) c:=De (dW _ _) (dW _ _) fun x=>by
  show ev (bX p c) x = ev (bX (trim p) c) x
  rw [iK,iK,kV]
 have e2:trim p = bX (bX p c) (-c):=De (qJ _) (dW _ _) fun x=>by
  show ev (trim p) x = ev (bX (bX p c) (-c)) x
  rw [iK,iK,kV]; congr 1; grind
 have e3:trim (bX p c) = bX p c:=De (qJ _) (dW _ _) fun x=>kV _ _
 have h1:=kM [c,1] (by simp) (trim p)
 have h2:=kM [-c,1] (by simp) (bX p c)
 have l1:=eP (bX p c)
 have l2:=eP p
 have h1':(bX p c).length ≤ (trim p).length:=by rw [e1]; exact h1
 have h2':(trim p).length ≤ (bX p c).length:=by rw [e2]; exact h2
 rw [e3] at l1
 omega
theorem Fy (l:List (List Rat)) (c:Rat):aU (cF l c) = aU l:=by
 unfold aU cF
 rw [List.foldl_map]
 congr 1
 funext d p
 rw [JC]
section
variable {E:List (List Rat)} {ER:List (List RQ)} {X:Rat} {XR:RQ}
theorem Fj (h:SmallX E ER X XR):aL prog 20 [.one (eR ER)] (.ret [.one (.bool (lG E))]):=by
 have hd:=HJ ER (by have:=h.erl; omega) (fun p hp=>by have:=(h.rq p hp).1; omega)
 rw [h.sim.lG] at hd
 exact hd
theorem Db (h:SmallX E ER X XR) (hok:lG E = true):aL prog 42 [.one (eR ER),fB XR] (.ret [.one (.bool (iU E X))]):=by
 have h0:0 < ER.length:=by
  have h1:=h.sim.1
  rw [jY] at h1
  unfold lG at hok
  rw [decide_eq_true_iff] at hok
  omega
 have hd:=Cu ER XR h.e2 h0 (by rw [h.x]; exact h.xf)
 rw [h.sim.iU,h.x] at hd
 exact hd
theorem Gk (h:SmallX E ER X XR):aL prog 52 [.one (eR ER)] (.ret [.one (.int .i64 ((E.length:Int) - 1 + (aU (cF E X):Nat)))]):=by
 have hd:=NP ER (fun p hp=>by have:=(h.rq p hp).1; omega) (by have:=h.erl; omega)
 have h1:=h.sim.1
 rw [jY] at h1
 rw [h.sim.mov X,Fy,h1]
 exact hd
theorem SmallX.at (h:SmallX E ER X XR) {x:bP} (hx:x.In) (hs:x.short = true):SmallX E ER x.v (.of x.v):=
 ⟨h.e1,h.e2,h.sim,rfl,h.el,h.eb,h.rb,bP.qY hs,hx.QT⟩
end
section
variable {c:bI}
theorem Mw (h:jT c) (hok:okF c.E c.X c.Y = true) (n:Nat) (hn:n ≤ 200) :
  aL prog 28 [.one (eR (Bg c.ER c.XR)), .one (sR c.YR), .one (.int .i64 n)] (.ret [.one (sR ((bD (cF c.E c.X) (c.E.length - 1) (bH c.E c.X) c.Y n).map RQ.of))]):=by
 obtain ⟨B,hBe⟩:∃ B,B = Jj:=⟨_,rfl⟩
 have h64:64 ≤ B:=by rw [hBe]; decide
 have hB:B ≤ 46160011:=by rw [hBe]; decide
 obtain ⟨h2,h5,hyl,hld,_⟩:=kD hok
 obtain ⟨p,hp,hp0⟩:=lT hld (by omega)
 rw [← h.sh,eC,List.getElem?_map] at hp
 obtain ⟨p0,hp1,rfl⟩:=Option.map_eq_some_iff.1 hp
 rw [List.getElem?_map] at hp0
 obtain ⟨l,hl0,hl⟩:=Option.map_eq_some_iff.1 hp0
 have hst:=h.QH hok
 rw [← hBe] at hst
 rw [← h.sh,← hl,← h.y] at hst
 have hd:=Mg (Bg c.ER c.XR) c.YR n 200 B (c.E.length - 1) l p0 hp1 hl0 (by
  rw [Bg,List.length_map]; have:=h.sim.1; rw [jY] at this; omega) hst hn (by omega) (by omega) (by omega) (by omega) h64 (by have:=congrArg List.length h.y; rw [List.length_map] at this; omega) (fun q hq=>by
   obtain ⟨p,hp,rfl⟩:=List.mem_map.1 hq
   have hl:=(h.rq p hp).1
   have:=uQ p [c.XR, .of ((1:Int):Rat)] p.length
   simp only [List.length_cons,List.length_nil] at this; omega) (by rw [hl]; exact hld)
 rw [h.sh,hl,h.y] at hd
 exact hd
end
theorem oX {E:List (List Rat)} {X:Rat} (h:dN (cF E X) (E.length - 1) (bH E X) = none):mB E X = (.nil,0):=by unfold mB; rw [h]
theorem jW {E:List (List Rat)} {X bG:Rat} {st:Nat} (h:dN (cF E X) (E.length - 1) (bH E X) = some (bG,st)):mB E X = (.of bG,st):=by unfold mB; rw [h]
theorem Ke {E:List (List Rat)} {X:Rat} {Y:List Rat} {n d:Int} {r:Rat} (hok:okF E X Y = true) (h:dN (cF E X) (E.length - 1) (bH E X) = none):rS E X Y n d r = (0,5):=by unfold rS; rw [if_pos hok,h]
theorem iH {E:List (List Rat)} {X:Rat} {Y:List Rat} {n d:Int} {r bG:Rat} {st:Nat} (hok:okF E X Y = true) (h:dN (cF E X) (E.length - 1) (bH E X) = some (bG,st)) (hc:¬ (uH bG st n d r ∧ dV bG n d r < 1)):rS E X Y n d r = (0,3):=by
 unfold rS; rw [if_pos hok,h]; exact if_neg hc
theorem On {E:List (List Rat)} {X:Rat} {Y:List Rat} {n d:Int} {r bG:Rat} {st:Nat} (hok:okF E X Y = true) (h:dN (cF E X) (E.length - 1) (bH E X) = some (bG,st)) (hc:uH bG st n d r ∧ dV bG n d r < 1):rS E X Y n d r = (wE (Tm E X Y bG st) bG n.toNat d.toNat r,0):=by
 unfold rS; rw [if_pos hok,h]; exact if_pos hc
end Go.Sy
namespace Go.Sy
open Go Go.Proofs Tryz Ord
theorem Gn (T:Rat) (B:Nat) (h:Fit B T) (hB:B ≤ 268435456):aL prog 44 [qT T,fB (.of T)] (.ret [.one (.bool true)]):=by
 have hd:=SO T (.of T) B h h hB
 rwa [decide_eq_true (show T = (RQ.of T).q from rfl)] at hd
theorem Ho:((1:Int):Rat) = 1:=by decide +kernel
theorem Zb {a:Rat} (h:¬ kO a ((1:Int):Rat) ≥ 0):a < 1:=by
 have:=Fi.1 (show kO a ((1:Int):Rat) < 0 by omega)
 rwa [Ho] at this
theorem Uo {a:Rat} (h:kO a ((1:Int):Rat) ≥ 0):¬ a < 1:=fun h1=>by
 have:=Fi.2 (show a < ((1:Int):Rat) by rw [Ho]; exact h1)
 omega
section
variable {c:bI}
theorem Ok (h:jT c) (hok:okF c.E c.X c.Y = true) {hh st n d:Nat} {r:Rat} (hr:Bd (cK 999) 999 r) (h62:hh ≤ 62) (hst:st ≤ 200) (hn:n ≤ 200) (hd:d ≤ 4) (hdn:d ≤ n) (hW:c.E.length - 1 + aU (cF c.E c.X) ≤ st):Fit 268435456 (wE (Tm c.E c.X c.Y (aX hh) st) (aX hh) n d r):=by
 have S:=h.QH hok
 have C:oC 8388608 (aX hh) n d r:=fI hr h62 (by omega) hd (Nat.le_refl _)
 have C2:oC 8388608 (aX hh) 200 0 r:=fI hr h62 (by omega) (by omega) (Nat.le_refl _)
 have hb:Fit (Jj + Jj) (Tm c.E c.X c.Y (aX hh) st):=FV (fun x hx=>zP S hst hx) (by decide) (fun j hj=>(C2.fo j (by omega)).mono (by decide)) (by omega) _ (Nat.le_refl _)
 have hff:=C.ff d (Nat.le_refl _)
 have hfr:=C.fr (n - d) (by omega)
 have hfo:=C.fo n (by omega)
 have hsh:=C.sh (by omega) (by omega)
 exact ((hb.mul ((hff.mul hfr).div hfo)).div ((Fit.int (B:=64) (n:=1) (by omega) (by omega)).sub hsh)).mono (by decide)
end
set_option maxHeartbeats 4000000 in
theorem iW (c:bI) (hC:jT c) (y:bP) (hy:y.In) (hys:y.short = true) (n d:Int) (hn1:-9223372036854775808 ≤ n) (hn2:n < 9223372036854775808) (hd1:-9223372036854775808 ≤ d) (hd2:d < 9223372036854775808):vc prog (fun o=>CK o (.ret [.one (.bool true)])) uU [.one (.int .i64 n), .one (.int .i64 d),fT c.E c.X c.Y,fR c.ER c.XR c.YR,qT y.v,fB (.of y.v)] []:=by
 have hr:=bP.qY hys
 have hyf:=hy.QT
 refine aC (GK hC n d y.v hr hyf hn1 hn2) rfl ?_
 dsimp only [aB,aA]
 refine aC (Hs hC) rfl ?_
 dsimp only [aB,aA]
 refine vn lW rfl ?_
 dsimp only [aB,aA]
 refine uY (!okF c.E c.X c.Y) rfl (fun hq=>?_) (fun hq=>?_)
 ·rw [show rS c.E c.X c.Y n d y.v = (0,2) by unfold rS; rw [if_neg (by simpa using hq)]]
  dsimp only
  refine vn bE rfl ?_
  dsimp only [aB,aA]
  refine vs _ rfl (fun h39=>?_) (fun h39=>?_)
  ·refine aC (dB _) rfl ?_
   dsimp only [aB,aA]
   refine vn bE rfl ?_
   dsimp only [aB,aA]
   refine vs _ rfl (fun h42=>?_) (fun h42=>?_)
   ·refine aC dY rfl ?_
    dsimp only [aB,aA]
    exact aK rfl
   exact absurd rfl h42
  exact absurd rfl h39
 have hok:okF c.E c.X c.Y = true:=by simpa using hq
 obtain ⟨hE2,hE5,hyl,hld,_⟩:=kD hok
 refine aC (vZ hC.toSmallX (KB hok)) rfl ?_
 dsimp only [aB,aA]
 refine vn bE rfl ?_
 dsimp only [aB,aA]
 refine vs _ rfl (fun h49=>?_) (fun h49=>?_)
 ·have hv:dN (cF c.E c.X) (c.E.length - 1) (bH c.E c.X) = none:=by
   cases hv:dN (cF c.E c.X) (c.E.length - 1) (bH c.E c.X) with
   | none=>rfl
   | some x=>
     obtain ⟨bG,st⟩:=x
     obtain ⟨_,_,_,_,hW⟩:=lS (by omega) hv
     rw [jW hv] at h49
     dsimp only at h49
     omega
  rw [Ke hok hv]
  dsimp only
  refine vn bE rfl ?_
  dsimp only [aB,aA]
  refine vs _ rfl (fun h51=>?_) (fun h51=>?_)
  ·refine aC (dB _) rfl ?_
   dsimp only [aB,aA]
   refine vn bE rfl ?_
   dsimp only [aB,aA]
   refine vs _ rfl (fun h54=>?_) (fun h54=>?_)
   ·refine aC dY rfl ?_
    dsimp only [aB,aA]
    exact aK rfl
   exact absurd rfl h54
  exact absurd rfl h51
 obtain ⟨bG,st,hv⟩:∃ bG st,dN (cF c.E c.X) (c.E.length - 1) (bH c.E c.X) = some (bG,st):=by
  cases hv:dN (cF c.E c.X) (c.E.length - 1) (bH c.E c.X) with
  | none=>rw [oX hv] at h49; exact absurd rfl h49
  | some x=>exact ⟨x.1,x.2,rfl⟩
 rw [jW hv]
 dsimp only
 obtain ⟨hh,hh62,hrho,hst,hW⟩:=lS (by omega) hv
 have hrf:Fit 8388608 bG:=by rw [hrho]; exact (fI hr hh62 (n:=1) (d:=0) (by omega) (by omega) (Nat.le_refl _)).o1
 refine vn aY rfl ?_
 dsimp only [aB,aA]
 refine vs _ rfl (fun h60=>?_) (fun h60=>?_)
 ·rw [iH hok hv (fun h=>by have:=h.1.1; omega)]
  dsimp only
  refine vn bE rfl ?_
  dsimp only [aB,aA]
  refine vs _ rfl (fun h62=>?_) (fun h62=>?_)
  ·refine aC (dB _) rfl ?_
   dsimp only [aB,aA]
   refine vn bE rfl ?_
   dsimp only [aB,aA]
   refine vs _ rfl (fun h65=>?_) (fun h65=>?_)
   ·refine aC dY rfl ?_
    dsimp only [aB,aA]
    exact aK rfl
   exact absurd rfl h65
  exact absurd rfl h62
 refine vn cP rfl ?_
 dsimp only [aB,aA]
 refine vs _ rfl (fun h71=>?_) (fun h71=>?_)
 ·rw [iH hok hv (fun h=>by have:=h.1.2.1; omega)]
  dsimp only
  refine vn bE rfl ?_
  dsimp only [aB,aA]
  refine vs _ rfl (fun h73=>?_) (fun h73=>?_)
  ·refine aC (dB _) rfl ?_
   dsimp only [aB,aA]
   refine vn bE rfl ?_
   dsimp only [aB,aA]
   refine vs _ rfl (fun h76=>?_) (fun h76=>?_)
   ·refine aC dY rfl ?_
    dsimp only [aB,aA]
    exact aK rfl
   exact absurd rfl h76
  exact absurd rfl h73
 refine aC (Gd (.of y.v)) rfl ?_
 dsimp only [aB,aA]
 refine vn aY rfl ?_
 dsimp only [aB,aA]
 refine vs _ rfl (fun h83=>?_) (fun h83=>?_)
 ·have h83':y.v.num.sign < 0:=h83
  rw [iH hok hv (fun h=>by have:=h.1.2.2.1; omega)]
  dsimp only
  refine vn bE rfl ?_
  dsimp only [aB,aA]
  refine vs _ rfl (fun h85=>?_) (fun h85=>?_)
  ·refine aC (dB _) rfl ?_
   dsimp only [aB,aA]
   refine vn bE rfl ?_
   dsimp only [aB,aA]
   refine vs _ rfl (fun h88=>?_) (fun h88=>?_)
   ·refine aC dY rfl ?_
    dsimp only [aB,aA]
    exact aK rfl
   exact absurd rfl h88
  exact absurd rfl h85
 have h83':¬ y.v.num.sign < 0:=h83
 refine aC (lO (.of y.v) (.of y.v) 513 513 hyf hyf (by omega)) rfl ?_
 dsimp only [aB,aA]
 refine aC (CQ (.of (y.v + y.v)) (.of bG) (513 + 513 + 1) 8388608 (hyf.add hyf) hrf (by omega)) rfl ?_
 dsimp only [aB,aA]
 refine vn cP rfl ?_
 dsimp only [aB,aA]
 refine vs _ rfl (fun h96=>?_) (fun h96=>?_)
 ·have h96':kO (y.v + y.v) bG > 0:=h96
  rw [iH hok hv (fun h=>by have:=h.1.2.2.2.1; omega)]
  dsimp only
  refine vn bE rfl ?_
  dsimp only [aB,aA]
  refine vs _ rfl (fun h98=>?_) (fun h98=>?_)
  ·refine aC (dB _) rfl ?_
   dsimp only [aB,aA]
   refine vn bE rfl ?_
   dsimp only [aB,aA]
   refine vs _ rfl (fun h101=>?_) (fun h101=>?_)
   ·refine aC dY rfl ?_
    dsimp only [aB,aA]
    exact aK rfl
   exact absurd rfl h101
  exact absurd rfl h98
 have h96':¬ kO (y.v + y.v) bG > 0:=h96
 refine vn aY rfl ?_
 dsimp only [aB,aA]
 refine vs _ rfl (fun h107=>?_) (fun h107=>?_)
 ·rw [iH hok hv (fun h=>by have:=h.1.2.2.2.2.1; omega)]
  dsimp only
  refine vn bE rfl ?_
  dsimp only [aB,aA]
  refine vs _ rfl (fun h109=>?_) (fun h109=>?_)
  ·refine aC (dB _) rfl ?_
   dsimp only [aB,aA]
   refine vn bE rfl ?_
   dsimp only [aB,aA]
   refine vs _ rfl (fun h112=>?_) (fun h112=>?_)
   ·refine aC dY rfl ?_
    dsimp only [aB,aA]
    exact aK rfl
   exact absurd rfl h112
  exact absurd rfl h109
 refine vn cP rfl ?_
 dsimp only [aB,aA]
 refine vs _ rfl (fun h118=>?_) (fun h118=>?_)
 ·rw [iH hok hv (fun h=>by have:=h.1.2.2.2.2.2.1; omega)]
  dsimp only
  refine vn bE rfl ?_
  dsimp only [aB,aA]
  refine vs _ rfl (fun h120=>?_) (fun h120=>?_)
  ·refine aC (dB _) rfl ?_
   dsimp only [aB,aA]
   refine vn bE rfl ?_
   dsimp only [aB,aA]
   refine vs _ rfl (fun h123=>?_) (fun h123=>?_)
   ·refine aC dY rfl ?_
    dsimp only [aB,aA]
    exact aK rfl
   exact absurd rfl h123
  exact absurd rfl h120
 refine vn fQ rfl ?_
 dsimp only [aB,aA]
 refine vs _ rfl (fun h129=>?_) (fun h129=>?_)
 ·rw [iH hok hv (fun h=>by have:=h.1.2.2.2.2.2.2; omega)]
  dsimp only
  refine vn bE rfl ?_
  dsimp only [aB,aA]
  refine vs _ rfl (fun h131=>?_) (fun h131=>?_)
  ·refine aC (dB _) rfl ?_
   dsimp only [aB,aA]
   refine vn bE rfl ?_
   dsimp only [aB,aA]
   refine vs _ rfl (fun h134=>?_) (fun h134=>?_)
   ·refine aC dY rfl ?_
    dsimp only [aB,aA]
    exact aK rfl
   exact absurd rfl h134
  exact absurd rfl h131
 refine aC (HT (.of bG) n d (.of y.v) 8388608 (by rw [hrho]; exact vM hh) (by omega) (by omega) (by omega) (by omega) (by omega) (hyf.mono (by decide)) hrf (by omega)) rfl ?_
 have hsf:Fit (128 + (8388608 + 8388608)) (dV bG n d y.v):=((dH (n:=n + 1) (by omega) (by omega)).div (dH (n:=n + 1 - d) (by omega) (by omega))).mul ((hyf.mono (by decide)).div hrf)
 dsimp only [aB,aA]
 refine aC (fY 1 (by omega) (by omega)) rfl ?_
 dsimp only [aB,aA]
 refine aC (CQ (.of (dV bG n d y.v)) (.of ((1:Int):Rat)) (128 + (8388608 + 8388608)) 64 hsf (Fit.int (by omega) (by omega)) (by omega)) rfl ?_
 dsimp only [aB,aA]
 refine vn dJ rfl ?_
 dsimp only [aB,aA]
 refine vs _ rfl (fun h143=>?_) (fun h143=>?_)
 ·rw [iH hok hv (fun h=>Uo h143 h.2)]
  dsimp only
  refine vn bE rfl ?_
  dsimp only [aB,aA]
  refine vs _ rfl (fun h145=>?_) (fun h145=>?_)
  ·refine aC (dB _) rfl ?_
   dsimp only [aB,aA]
   refine vn bE rfl ?_
   dsimp only [aB,aA]
   refine vs _ rfl (fun h148=>?_) (fun h148=>?_)
   ·refine aC dY rfl ?_
    dsimp only [aB,aA]
    exact aK rfl
   exact absurd rfl h148
  exact absurd rfl h145
 refine vn cP rfl ?_
 dsimp only [aB,aA]
 refine vs _ rfl (fun h154=>?_) (fun h154=>?_)
 ·refine aC dY rfl ?_
  dsimp only [aB,aA]
  exact aK rfl
 have hsh:dV bG n d y.v < 1:=Zb h143
 rw [On hok hv ⟨⟨by omega,by omega,by omega,by omega,by omega,by omega,by omega⟩,hsh⟩]
 dsimp only
 clear hsf hrf h83 h83' h96 h96' h143 hyf
 obtain ⟨k,hk⟩:∃ k:Nat,n = (k:Int):=⟨n.toNat,by omega⟩
 obtain ⟨e,he⟩:∃ e:Nat,d = (e:Int):=⟨d.toNat,by omega⟩
 subst hk he hrho
 rw [Int.toNat_natCast,Int.toNat_natCast]
 have hS2:=hC.QH hok
 have hal:=cH (cF c.E c.X) (c.E.length - 1) (bH c.E c.X) c.Y st
 have C:oC Jj (aX hh) k e y.v:=fI hr hh62 (by omega) (by omega) (by decide)
 have htf:=Ok hC hok (st:=st) hr hh62 (n:=k) (d:=e) (by omega) (by omega) (by omega) (by omega) (by omega)
 refine aC (DU hC) rfl ?_
 dsimp only [aB,aA]
 refine aC (Mw hC hok st (by omega)) rfl ?_
 dsimp only [aB,aA]
 refine vn bE rfl ?_
 dsimp only [aB,aA]
 refine vs _ rfl (fun h160=>?_) (fun h160=>?_)
 ·refine aC (Gk hC.toSmallX) rfl ?_
  rw [show (c.E.length:Int) - 1 + (aU (cF c.E c.X):Nat) = ((c.E.length - 1 + aU (cF c.E c.X):Nat):Int) by omega]
  have hT:=TL ((bD (cF c.E c.X) (c.E.length - 1) (bH c.E c.X) c.Y st).map RQ.of) (.of (aX hh)) st (c.E.length - 1 + aU (cF c.E c.X)) k e (.of y.v) Jj C (by omega) (by omega) (by rw [List.length_map]; omega) (by rw [List.length_map]; omega) (fun q hq=>by
   obtain ⟨x,hx,rfl⟩:=List.mem_map.1 hq
   exact zP hS2 (show st ≤ 200 by omega) hx) (by omega) (by omega) (vM hh) (by decide) (by decide) hsh
  rw [Rg] at hT
  dsimp only [aB,aA]
  refine aC hT rfl ?_
  dsimp only [aB,aA]
  refine aC (Gn _ _ htf (Nat.le_refl _)) rfl ?_
  dsimp only [aB,aA]
  refine uY true rfl (fun _=>?_) (fun h=>by cases h)
  refine aC dY rfl ?_
  dsimp only [aB,aA]
  exact aK rfl
 exact absurd rfl h160
end Go.Sy
