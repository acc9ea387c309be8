/- Steps. -/
import Derived.Test.YtdmcadckdnnglaaGreatDoorHe
import Derived.Test.YtdmcadckdnnglaaGreatDoorGb
import Derived.Test.YtdmcadckdnnglaaGreatDoorYa
set_option linter.unusedVariables false
set_option linter.unusedSimpArgs false
namespace Go.Sy
open Go Go.Proofs Tryz Ord
theorem aM.OC {P:Program} {f:FuncId} {ins:List aF} {ts us:List aF} (h:aM P f ins (.ret ts)) (hs:aO ts us):aM P f ins (.ret us):=
 ⟨h.1,fun M w vs hM hv=>(h.2 M w vs hM hv).mono fun e w' ⟨hb,vs',e',hr⟩=>⟨hb,vs',e',cI.sub hs hr⟩⟩
def vK (E:List (List Rat)) (X t:Rat) (k:Int):List (List aH)×Int:=
 if nI E=true then (if jO E X=true then (match eL (bH E X) (E.length-1) (aQ E X) with
  | some (aJ,st)=>if t.abs*2≤aJ then (match fB E X aJ st t (E.length-1-1) k with
    | some N=>(JJ (bH E X) (E.length-1) (aQ E X) aJ st t k N (E.length-1),0)
    | none=>([],5)) else ([],3)
  | none=>([],5)) else ([],11)) else ([],2)
def BI (E:List (List Rat)) (X aJ:Rat) (st:Nat) (t:Rat) (k:Int):List (List aH)×Int:=
 match fB E X aJ st t (E.length-1-1) k with
 | some N=>(Xu (bH E X) (E.length-1) (aQ E X) aJ st t k N (E.length-1),0)
 | none=>([],1)
section
variable {E:List (List Rat)} {ER:List (List RQ)} {X:Rat} {XR:RQ}
theorem YU (hr:iK E X) {aJ t:Rat} {st:Nat} {k:Int} (hv:eL (bH E X) (E.length-1) (aQ E X)=some (aJ,st)) (hst:st≤200) (ht:Bd (cG 999) 999 t) (tf:Fit 513 t) (h2:t.abs*2≤aJ) (hk:k≤256):rI E X aJ st t k:=
 ⟨hv,hst,ht,tf,by have e:t.abs+t.abs=t.abs*2:=by grind
                  rw [e];exact h2,hk⟩
theorem oU (h:SmallX E ER X XR) (t:Rat) (k:Int) (ht:Bd (cG 999) 999 t) (tf:Fit 513 t) (hk:k≤256) (hst:∀ aJ st,eL (bH E X) (E.length-1) (aQ E X)=some (aJ,st)→nI E=true→jO E X=true→st≤200) :
  aM prog 59 [.one (eQ E),qT X,qT t, .one (.int .i64 k)] (.ret [.one (.slice 1 (vK E X t k).1), .one (.int .i64 (vK E X t k).2)]):=by
 have hl:=h.e1.l;have hce:=jS E (by omega) (fun p hp=>by have:=(h.e1.p p hp).1;omega);have hnil:∀ er:Int,aO [.one (.exact (.slice none 0 0)), .one (.int .i64 er)] [.one (.slice 1 []), .one (.int .i64 er)]:=fun er=>⟨aH.Sub.nil,aF.Sub.same,trivial⟩
 unfold vK;by_cases hok:nI E=true
 ·rw [if_pos hok] at hce ⊢
  have hlen:0<E.length:=by
   unfold nI at hok;rw [decide_eq_true_iff] at hok;omega
  have hrg:=vJ E X h.e1 hlen h.xf;by_cases hreg:jO E X=true
  ·rw [if_pos hreg];rw [hreg] at hrg;have hr:iK E X:=⟨hok,hreg⟩
   have ho:=Gq h hr;have hat:=NG h hr;obtain ⟨h2,h5,_,_⟩:=hr.facts;unfold BG at ho;cases hv:eL (bH E X) (E.length-1) (aQ E X) with
   | none=>
     rw [hv] at ho;exact (sC E X t k 5 hce hrg (AD E X t k _ _ _ 5 hat ho)).OC (hnil 5)
   | some x=>
     obtain ⟨aJ,st⟩:=x;rw [hv] at ho;dsimp only at ho ⊢;have hst2:=hst aJ st hv hok hreg;obtain ⟨hh,hh62,hrho,_,_⟩:=dY (by omega) hv;have hrf:Fit 8388608 aJ:=by rw [hrho];exact (gE ht.abs hh62 (n:=1) (d:=0) (by omega) (by omega) (Nat.le_refl _)).o1
     have htf:Fit 8388608 t:=tf.mono (by omega);by_cases hc:t.abs*2≤aJ
     ·rw [if_pos hc];have S:=YU hr hv hst2 ht tf hc hk;have hm:=Nq (h.aV6 hr S);unfold Qx at hm;cases ho2:fB E X aJ st t (E.length-1-1) k with
      | none=>
        rw [ho2] at hm;exact (sC E X t k 5 hce hrg (Dw E X t k _ _ _ aJ st 8388608 5 hat ho htf hrf (by omega) (by omega) hc hm)).OC (hnil 5)
      | some N=>
        rw [ho2] at hm;exact Ij E X t k _ hce hrg (EA E X t k _ _ _ aJ st 8388608 _ hat ho htf hrf (by omega) (by omega) hc hm)
     ·rw [if_neg hc];exact (sC E X t k 3 hce hrg (Dl E X t k _ _ _ aJ st 8388608 hat ho htf hrf (by omega) (by omega) hc)).OC (hnil 3)
  ·rw [if_neg hreg];rw [show jO E X=false by simpa using hreg] at hrg;exact (Jn E X t k hce hrg).OC (hnil 11)
 ·rw [if_neg hok] at hce ⊢;exact (Iv E X t k hce).OC (hnil 2)
theorem DI (h:SmallX E ER X XR) (hr:iK E X) {aJ t:Rat} {u:RQ} {st:Nat} {k:Int} (S:rI E X aJ st t k) (hu:u.q=t) :
  aM prog 61 [.one (eR ER),dE XR,dE u, .one (.int .i64 k)] (.ret [.one (.slice 1 (BI E X aJ st t k).1), .one (.int .i64 (BI E X aJ st t k).2)]):=by
 unfold BI;cases ho:fB E X aJ st t (E.length-1-1) k with
 | none=>exact (Ld E ER X XR u h hr aJ t st k S hu ho).OC ⟨aH.Sub.nil,aF.Sub.same,trivial⟩
 | some N=>exact Li E ER X XR u h hr aJ t st k S hu N ho
theorem ID (h:SmallX E ER X XR) (hr:iK E X) {aJ t:Rat} {st:Nat} {k:Int} (S:rI E X aJ st t k) {N:Nat} (hN:fB E X aJ st t (E.length-1-1) k=some N) {d:Nat} (hd:d<E.length-1) :
  aM prog 63 [.one (.slice 6 (Ra (bH E X) (E.length-1) (aQ E X) aJ st t k N d (E.length-1))), .one (.slice 8 (Pn (bH E X) (E.length-1) (aQ E X) aJ st t k N d (E.length-1)))] (.ret [.one (.bool true)]):=by
 obtain ⟨h2,h5,_,_⟩:=hr.facts;have hN1:=(h.FX hr S (d:=E.length-1-1) (by omega)).some N hN
 have hd':=TH ((List.range (E.length-1)).map fun l=>(RQ.of (Gc (bH E X) (E.length-1) (aQ E X) aJ st t k N d l),RQ.of (Gl (bH E X) (E.length-1) (aQ E X) aJ st t k N d l))) 268435456 (fun p hp=>by
  obtain ⟨l,hl,rfl⟩:=List.mem_map.1 hp;exact h.am5 hr S hN1.1 hN1.2 hd (List.mem_range.1 hl)) (by omega) (by rw [List.length_map,List.length_range];omega)
 rw [List.map_map,List.map_map] at hd';exact hd'
end
theorem QN {E:List (List Rat)} {X t:Rat} {k:Int} (h:nI E=false):vK E X t k=([],2):=by unfold vK;rw [h];rfl
theorem Sq {E:List (List Rat)} {X t:Rat} {k:Int} (hok:nI E=true) (h:jO E X=false):vK E X t k=([],11):=by unfold vK;rw [if_pos hok,h];rfl
theorem NT {E:List (List Rat)} {X t:Rat} {k:Int} (hr:iK E X) (h:eL (bH E X) (E.length-1) (aQ E X)=none):vK E X t k=([],5):=by unfold vK;rw [if_pos hr.ok,if_pos hr.reg,h]
theorem Ua {E:List (List Rat)} {X t aJ:Rat} {k:Int} {st:Nat} (hr:iK E X) (h:eL (bH E X) (E.length-1) (aQ E X)=some (aJ,st)) (ht:¬ t.abs*2≤aJ):vK E X t k=([],3):=by unfold vK;rw [if_pos hr.ok,if_pos hr.reg,h];dsimp only;rw [if_neg ht]
theorem Rc {E:List (List Rat)} {X t aJ:Rat} {k:Int} {st:Nat} (hr:iK E X) (h:eL (bH E X) (E.length-1) (aQ E X)=some (aJ,st)) (ht:t.abs*2≤aJ) (hn:fB E X aJ st t (E.length-1-1) k=none):vK E X t k=([],5):=by unfold vK;rw [if_pos hr.ok,if_pos hr.reg,h];dsimp only;rw [if_pos ht,hn]
theorem VL {E:List (List Rat)} {X t aJ:Rat} {k:Int} {st N:Nat} (hr:iK E X) (h:eL (bH E X) (E.length-1) (aQ E X)=some (aJ,st)) (ht:t.abs*2≤aJ) (hn:fB E X aJ st t (E.length-1-1) k=some N):vK E X t k=(JJ (bH E X) (E.length-1) (aQ E X) aJ st t k N (E.length-1),0):=by unfold vK;rw [if_pos hr.ok,if_pos hr.reg,h];dsimp only;rw [if_pos ht,hn]
theorem KD {p:List (List bQ)} {long:Int} {x:bQ} (hp:ZC p) (hs:gH p=true) (hl1:-9223372036854775808≤long) (hl2:long<9223372036854775808) (hx:x.In) (hxs:x.short=true):SmallX (Bw p long) (Pc p long) x.v (.of x.v):=
 (KQ (c:=⟨p,long,x,[],0,0⟩) ⟨hp,hl1,hl2,hx,by simp,(by intro y hy;cases hy),(by decide:(0:Nat)<256),(by decide:-9223372036854775808≤(0:Int)),(by decide:(0:Int)<9223372036854775808)⟩ (by
  unfold cP.small;rw [decide_eq_true_iff];exact ⟨by intro y hy;(cases hy),hs,hxs,by simp⟩)).toSmallX
open Go Go.Proofs Tryz Ord
def bP:Tr:=.ret [(tF false)]
def Nk:Tr:=.split (.u 27 0) (aK 16 [] [none] [] [] 4 true (.ret [(W 28 0)])) bP
def MW:Tr:=.split (.u 29 0) (aK 16 [] [none] [] [] 4 true (.ret [(W 30 0)])) bP
def Wo:Tr:=aU .eql 55 110 5 22 0 4 (.split (.u 30 0) (cB 21 0 113 109 (aU .eql 3 114 0 31 0 4 (.split (.u 32 0) (aK 16 [] [none] [] [] 4 true (.ret [(W 33 0)])) bP))) bP)
def Vr:Tr:=aU .eql 55 127 3 22 0 4 (.split (.u 34 0) (cB 21 0 130 109 (aU .eql 3 131 0 35 0 4 (.split (.u 36 0) (aK 16 [] [none] [] [] 4 true (.ret [(W 37 0)])) bP))) bP)
def Va:Tr:=bJ .eql 55 147 149 22 0 37 0 4 (.split (.u 38 0) (cB 21 0 152 109 (aU .eql 3 153 0 39 0 4 (.split (.u 40 0) (aK 16 [] [none] [] [] 4 true (.ret [(W 41 0)])) bP))) bP)
def Tg:Tr:=eD 34 0 42 0 113 178 179 (dI 47 0 none 119 180 (aK 63 [(W 46 0),(W 48 0)] [none] [177,181] [118,119] 4 true (.need (.prim [(W 49 0)] none) (.unOp .not 4 (tT 182)) 4 false (.split (.u 50 0) bP (aU .add 3 172 1 42 0 3 (.back 0 [lV 41 0,lV 51 0]))))))
def VO:Tr:=.split (.u 40 0) bP (.loop 0 [(.w (.one (.c (.k (.bool false))))),lK 0] (cB 21 0 169 109 (bJ .lss 3 168 170 42 0 43 0 4 (.split (.u 44 0) (eD 21 0 42 0 109 174 175 (dI 45 0 none 118 176 Tg)) (aK 16 [] [none] [] [] 4 true (.ret [(W 45 0)]))))))
def Yy:Tr:=aU .gtr 3 145 0 35 0 4 (.split (.u 36 0) (aK 62 [(W 35 0)] [none] [148] [3] 55 false Va) (aU .neq 55 159 0 22 0 4 (.split (.u 37 0) bP (cB 21 0 162 109 (cB 34 0 164 113 (bJ .neq 3 163 165 38 0 39 0 4 VO))))))
def WJ:Tr:=.split (.u 29 0) Wo (aK 48 [(G4 16),(G4 16)] [(some 4)] [120,121] [49,49] 49 false (aK 60 [(G4 30)] [(some 4)] [122] [49] 49 false (aK 47 [(G4 31),(G4 27)] [none] [123,124] [49,49] 3 true (aU .gtr 3 125 0 32 0 4 (.split (.u 33 0) Vr (aK 61 [(W 12 0),(G4 14),(G4 16),(W 10 0)] [none,none] [138,139,140,141] [44,49,49,3] 114 false Yy))))))
def Ve:Tr:=aK 42 [(W 12 0),(G4 14)] [none] [88,89] [44,49] 4 true (.need (.prim [(W 25 0)] none) (.unOp .not 4 (tT 90)) 4 false (.split (.u 26 0) (aU .eql 55 92 11 22 0 4 (.split (.u 27 0) (cB 21 0 95 109 (aU .eql 3 96 0 28 0 4 MW)) bP)) (aK 43 [(W 12 0),(G4 14)] [(some 4),none] [103,104] [44,49] 87 false (aU .eql 3 108 0 28 0 4 WJ))))
def Yd:Tr:=aK 20 [(W 12 0)] [none] [75] [44] 4 true (.need (.prim [(W 23 0)] none) (.unOp .not 4 (tT 76)) 4 false (.split (.u 24 0) (aU .eql 55 78 2 22 0 4 (.split (.u 25 0) (cB 21 0 81 109 (aU .eql 3 82 0 26 0 4 Nk)) bP)) Ve))
def Tx:Tr:=aU .eql 55 78 2 20 0 4 (.split (.u 23 0) (cB 19 0 81 109 (aU .eql 3 82 0 24 0 4 (.split (.u 25 0) (aK 16 [] [none] [] [] 4 true (.ret [(W 26 0)])) bP))) bP)
def Rq:Tr:=aU .eql 55 110 5 20 0 4 (.split (.u 28 0) (cB 19 0 113 109 (aU .eql 3 114 0 29 0 4 (.split (.u 30 0) (aK 16 [] [none] [] [] 4 true (.ret [(W 31 0)])) bP))) bP)
def RZ:Tr:=aU .eql 55 127 3 20 0 4 (.split (.u 32 0) (cB 19 0 130 109 (aU .eql 3 131 0 33 0 4 (.split (.u 34 0) (aK 16 [] [none] [] [] 4 true (.ret [(W 35 0)])) bP))) bP)
def Sw:Tr:=bJ .eql 55 147 149 20 0 35 0 4 (.split (.u 36 0) (cB 19 0 152 109 (aU .eql 3 153 0 37 0 4 (.split (.u 38 0) (aK 16 [] [none] [] [] 4 true (.ret [(W 39 0)])) bP))) bP)
def RT:Tr:=eD 32 0 40 0 113 178 179 (dI 45 0 none 119 180 (aK 63 [(W 44 0),(W 46 0)] [none] [177,181] [118,119] 4 true (.need (.prim [(W 47 0)] none) (.unOp .not 4 (tT 182)) 4 false (.split (.u 48 0) bP (aU .add 3 172 1 40 0 3 (.back 0 [lV 39 0,lV 49 0]))))))
def Qb:Tr:=.split (.u 38 0) bP (.loop 0 [(.w (.one (.c (.k (.bool false))))),lK 0] (cB 19 0 169 109 (bJ .lss 3 168 170 40 0 41 0 4 (.split (.u 42 0) (eD 19 0 40 0 109 174 175 (dI 43 0 none 118 176 RT)) (aK 16 [] [none] [] [] 4 true (.ret [(W 43 0)]))))))
def Qe:Tr:=aU .gtr 3 145 0 33 0 4 (.split (.u 34 0) (aK 62 [(W 33 0)] [none] [148] [3] 55 false Sw) (aU .neq 55 159 0 20 0 4 (.split (.u 35 0) bP (cB 19 0 162 109 (cB 32 0 164 113 (bJ .neq 3 163 165 36 0 37 0 4 Qb))))))
def Um:Tr:=.split (.u 27 0) Rq (aK 48 [(G4 16),(G4 16)] [(some 4)] [120,121] [49,49] 49 false (aK 60 [(G4 28)] [(some 4)] [122] [49] 49 false (aK 47 [(G4 29),(G4 25)] [none] [123,124] [49,49] 3 true (aU .gtr 3 125 0 30 0 4 (.split (.u 31 0) RZ (aK 61 [(W 12 0),(G4 14),(G4 16),(W 10 0)] [none,none] [138,139,140,141] [44,49,49,3] 114 false Qe))))))
def Qi:Tr:=aK 42 [(W 12 0),(G4 14)] [none] [88,89] [44,49] 4 true (.need (.prim [(W 23 0)] none) (.unOp .not 4 (tT 90)) 4 false (.split (.u 24 0) (aU .eql 55 92 11 20 0 4 (.split (.u 25 0) (cB 19 0 95 109 (aU .eql 3 96 0 26 0 4 Nk)) bP)) (aK 43 [(W 12 0),(G4 14)] [(some 4),none] [103,104] [44,49] 87 false (aU .eql 3 108 0 26 0 4 Um))))
def Xo:Tr:=aK 42 [(W 12 0),(G4 14)] [none] [56,57] [44,49] 4 false (.split (.u 18 0) (aK 58 [(W 12 0),(G4 14)] [none] [61,62] [44,49] 4 false (.need (.prim [(W 19 0)] none) (.unOp .not 4 (tT 63)) 4 false (.split (.u 20 0) (aK 16 [] [none] [] [] 4 true (.ret [(W 21 0)])) (aK 59 [(W 11 0),(G3 13),(G3 15),(W 10 0)] [none,none] [68,69,70,71] [32,39,39,3] 110 false Yd)))) (aK 59 [(W 11 0),(G3 13),(G3 15),(W 10 0)] [none,none] [68,69,70,71] [32,39,39,3] 110 false (aK 20 [(W 12 0)] [none] [75] [44] 4 true (.need (.prim [(W 21 0)] none) (.unOp .not 4 (tT 76)) 4 false (.split (.u 22 0) Tx Qi)))))
def Sn:Tr:=aU .eql 55 78 2 19 0 4 (.split (.u 22 0) (cB 18 0 81 109 (aU .eql 3 82 0 23 0 4 (.split (.u 24 0) (aK 16 [] [none] [] [] 4 true (.ret [(W 25 0)])) bP))) bP)
def Te:Tr:=aU .eql 55 92 11 19 0 4 (.split (.u 24 0) (cB 18 0 95 109 (aU .eql 3 96 0 25 0 4 (.split (.u 26 0) (aK 16 [] [none] [] [] 4 true (.ret [(W 27 0)])) bP))) bP)
def Qw:Tr:=aU .eql 55 127 3 19 0 4 (.split (.u 31 0) (cB 18 0 130 109 (aU .eql 3 131 0 32 0 4 (.split (.u 33 0) (aK 16 [] [none] [] [] 4 true (.ret [(W 34 0)])) bP))) bP)
def Pd:Tr:=bJ .eql 55 147 149 19 0 34 0 4 (.split (.u 35 0) (cB 18 0 152 109 (aU .eql 3 153 0 36 0 4 (.split (.u 37 0) (aK 16 [] [none] [] [] 4 true (.ret [(W 38 0)])) bP))) bP)
def Tk:Tr:=eD 31 0 39 0 113 178 179 (dI 44 0 none 119 180 (aK 63 [(W 43 0),(W 45 0)] [none] [177,181] [118,119] 4 true (.need (.prim [(W 46 0)] none) (.unOp .not 4 (tT 182)) 4 false (.split (.u 47 0) bP (aU .add 3 172 1 39 0 3 (.back 0 [lV 38 0,lV 48 0]))))))
def PU:Tr:=.split (.u 37 0) bP (.loop 0 [(.w (.one (.c (.k (.bool false))))),lK 0] (cB 18 0 169 109 (bJ .lss 3 168 170 39 0 40 0 4 (.split (.u 41 0) (eD 18 0 39 0 109 174 175 (dI 42 0 none 118 176 Tk)) (aK 16 [] [none] [] [] 4 true (.ret [(W 42 0)]))))))
def RG:Tr:=aU .gtr 3 145 0 32 0 4 (.split (.u 33 0) (aK 62 [(W 32 0)] [none] [148] [3] 55 false Pd) (aU .neq 55 159 0 19 0 4 (.split (.u 34 0) bP (cB 18 0 162 109 (cB 31 0 164 113 (bJ .neq 3 163 165 35 0 36 0 4 PU))))))
def Qj:Tr:=.split (.u 26 0) (aU .eql 55 110 5 19 0 4 (.split (.u 27 0) (cB 18 0 113 109 (aU .eql 3 114 0 28 0 4 MW)) bP)) (aK 48 [(G4 16),(G4 16)] [(some 4)] [120,121] [49,49] 49 false (aK 60 [(G4 27)] [(some 4)] [122] [49] 49 false (aK 47 [(G4 28),(G4 24)] [none] [123,124] [49,49] 3 true (aU .gtr 3 125 0 29 0 4 (.split (.u 30 0) Qw (aK 61 [(W 12 0),(G4 14),(G4 16),(W 10 0)] [none,none] [138,139,140,141] [44,49,49,3] 114 false RG))))))
def TU:Tr:=.need (.prim [(W 20 0)] none) (.unOp .not 4 (tT 76)) 4 false (.split (.u 21 0) Sn (aK 42 [(W 12 0),(G4 14)] [none] [88,89] [44,49] 4 true (.need (.prim [(W 22 0)] none) (.unOp .not 4 (tT 90)) 4 false (.split (.u 23 0) Te (aK 43 [(W 12 0),(G4 14)] [(some 4),none] [103,104] [44,49] 87 false (aU .eql 3 108 0 25 0 4 Qj))))))
def VM:Tr:=aK 57 [(G2 0)] [none,none] [39] [24] 107 false (aK 40 [(G3 1)] [(some 3),(some 4)] [44] [26] 82 false (aK 40 [(G3 2)] [(some 3),(some 4)] [49] [26] 82 false (aK 20 [(W 12 0)] [none] [53] [44] 4 false (.split (.u 17 0) Xo (aK 59 [(W 11 0),(G3 13),(G3 15),(W 10 0)] [none,none] [68,69,70,71] [32,39,39,3] 110 false (aK 20 [(W 12 0)] [none] [75] [44] 4 true TU))))))
def ap7:Tr:=.need (.prim [(W 6 0)] none) (.unOp .not 4 (tT 27)) 4 false (.split (.u 7 0) (aK 16 [] [none] [] [] 4 true (.ret [(W 8 0)])) (aK 39 [(G3 2)] [none] [31] [26] 4 false (.need (.prim [(W 8 0)] none) (.unOp .not 4 (tT 32)) 4 false (.split (.u 9 0) (aK 16 [] [none] [] [] 4 true (.ret [(W 10 0)])) (aK 56 [(W 3 0)] [none] [36] [3] 3 true VM)))))
def aq8:Tr:=aK 55 [(G2 0)] [none] [22] [24] 4 false (.need (.prim [(W 4 0)] none) (.unOp .not 4 (tT 23)) 4 false (.split (.u 5 0) (aK 16 [] [none] [] [] 4 true (.ret [(W 6 0)])) (aK 39 [(G3 1)] [none] [26] [26] 4 false ap7)))
theorem Hu:aN prog f8 (fun _=>none) [.v (some 2), .v (some 3), .v (some 3), .v none]=aq8:=by kernel_rfl
theorem LZ (t:Rat):(t+t).abs=t.abs*2:=by
 unfold Rat.abs;split<;>split<;>grind
theorem RH (k:Int):FE k≤256:=by unfold FE;split<;>omega
theorem Cm {E:List (List Rat)} {X t aJ:Rat} {k:Int} {st:Nat} (hn:fB E X aJ st t (E.length-1-1) k=none):BI E X aJ st t k=([],1):=by unfold BI;rw [hn]
theorem IU {E:List (List Rat)} {X t aJ:Rat} {k:Int} {st N:Nat} (hn:fB E X aJ st t (E.length-1-1) k=some N):BI E X aJ st t k=(Xu (bH E X) (E.length-1) (aQ E X) aJ st t k N (E.length-1),0):=by unfold BI;rw [hn]
set_option maxHeartbeats 4000000 in
theorem HJ (p:List (List bQ)) (long:Int) (hp:ZC p) (hl1:-9223372036854775808≤long) (hl2:long<9223372036854775808) (x:bQ) (hx:x.In) (y:bQ) (hy:y.In) (k:Int):aM prog 8 [(.agg [sP p, .int .i64 long]:aF),(nT x:aF),(nT y:aF),(.one (.int .i64 k):aF)] (.ret [.one (.bool true)]):=by
 refine aD (args:=[.v (some 2), .v (some 3), .v (some 3), .v none]) (ins:=[.v (.agg [sP p, .int .i64 long]), .v (nT x), .v (nT y), .v (.one (.int .i64 k))]) (hints:=(fun _=>none)) fo (by kernel_rfl) func8 ⟨rfl,rfl,rfl,rfl,trivial⟩ ?_;rw [Hu];dsimp only [List.map,In.env,aB,aA];refine aC (Hc p long hp) rfl ?_;dsimp only [aB,aA];refine vn gX rfl ?_;dsimp only [aB,aA];refine rA (!gH p) rfl (fun h2=>?_) (fun h2=>?_)
 ·refine aC gU rfl ?_;exact aL rfl
 have hsp:gH p=true:=by cases hh:gH p<;>simp_all
 refine aC (Iq x hx) rfl ?_;dsimp only [aB,aA];refine vn gX rfl ?_;dsimp only [aB,aA];refine rA (!x.short) rfl (fun h7=>?_) (fun h7=>?_)
 ·refine aC gU rfl ?_;exact aL rfl
 have hxs:x.short=true:=by cases hh:x.short<;>simp_all
 refine aC (Iq y hy) rfl ?_;dsimp only [aB,aA];refine vn gX rfl ?_;dsimp only [aB,aA];refine rA (!y.short) rfl (fun h12=>?_) (fun h12=>?_)
 ·refine aC gU rfl ?_;exact aL rfl
 have hys:y.short=true:=by cases hh:y.short<;>simp_all
 have hX:=KD hp hsp hl1 hl2 hx hxs;obtain ⟨E,hE⟩:∃ E,E=Bw p long:=⟨_,rfl⟩
 obtain ⟨ER,hER⟩:∃ ER,ER=Pc p long:=⟨_,rfl⟩
 have hBR:=Hh p long hp hsp hl1 hl2;rw [←hE,←hER] at hX hBR;obtain ⟨g,hg⟩:∃ g,g=FE k:=⟨_,rfl⟩
 have hg2:g≤256:=by rw [hg];exact RH k
 have hyb:=bQ.vU hys;have hyf:=hy.Pe;refine aC (Xf k) rfl ?_;rw [←hg];dsimp only [aB,aA];refine aC hBR rfl ?_;dsimp only [aB,aA];refine aC (Gt x hx) rfl ?_;dsimp only [aB,aA];refine aC (Gt y hy) rfl ?_;dsimp only [aB,aA];refine aC (kR hX) rfl ?_;dsimp only [aB,aA];refine rA (nI E) rfl (fun hok=>?_) (fun hok=>?_)
 ·refine aC (lT hX hok) rfl ?_;dsimp only [aB,aA];refine rA (jO E x.v) rfl (fun hreg=>?_) (fun hreg=>?_)
  ·have hr:iK E x.v:=⟨hok,hreg⟩
   obtain ⟨hE2,hE5,_,_⟩:=hr.facts;refine aC (SK E ER x.v _ hX hr) rfl ?_;dsimp only [aB,aA];refine vn BF rfl ?_;dsimp only [aB,aA];refine vs _ rfl (fun h25=>?_) (fun h25=>?_)
   ·refine aC gU rfl ?_;exact aL rfl
   refine aC (oU hX y.v g hyb hyf hg2 (fun aJ st hv _ _=>by rw [kB hv] at h25;dsimp only at h25;omega)) rfl ?_;dsimp only [aB,aA];refine aC (kR hX) rfl ?_;rw [hok];dsimp only [aB,aA];refine vn gX rfl ?_;dsimp only [aB,aA];refine rA false rfl (fun h=>by cases h) (fun _=>?_);refine aC (lT hX hok) rfl ?_;rw [hreg];dsimp only [aB,aA];refine vn gX rfl ?_;dsimp only [aB,aA];refine rA false rfl (fun h=>by cases h) (fun _=>?_);refine aC (qS hX hr) rfl ?_;dsimp only [aB,aA];refine vn bL rfl ?_;dsimp only [aB,aA];refine vs _ rfl (fun h55=>?_) (fun h55=>?_)
   ·have hv:eL (bH E x.v) (E.length-1) (aQ E x.v)=none:=by
     cases hv:eL (bH E x.v) (E.length-1) (aQ E x.v) with
     | none=>rfl
     | some z=>
       obtain ⟨aJ,st⟩:=z;obtain ⟨_,_,_,_,hW⟩:=dY (by omega) hv;rw [kB hv] at h55;dsimp only at h55;omega
    rw [NT hr hv];dsimp only;refine vn bL rfl ?_;dsimp only [aB,aA];refine vs _ rfl (fun h57=>?_) (fun h57=>?_)
    ·refine vn (aP Ae rfl) rfl ?_;dsimp only [aB,aA];refine vn bL rfl ?_;dsimp only [aB,aA];refine vs _ rfl (fun h60=>?_) (fun h60=>?_)
     ·refine aC gU rfl ?_;exact aL rfl
     exact absurd rfl h60
    exact absurd rfl h57
   obtain ⟨aJ,st,hv⟩:∃ aJ st,eL (bH E x.v) (E.length-1) (aQ E x.v)=some (aJ,st):=by
    cases hv:eL (bH E x.v) (E.length-1) (aQ E x.v) with
    | none=>rw [Ep hv] at h55;exact absurd rfl h55
    | some z=>exact ⟨z.1,z.2,rfl⟩
   rw [kB hv] at h25;rw [kB hv];dsimp only at h25 ⊢;obtain ⟨hh,hh62,hrho,hst,hW⟩:=dY (by omega) hv;have hrf:Fit 8388608 aJ:=by rw [hrho];exact (gE hyb hh62 (n:=1) (d:=0) (by omega) (by omega) (Nat.le_refl _)).o1
   refine aC (jU (.of y.v) (.of y.v) 513 513 hyf hyf (by omega)) rfl ?_;dsimp only [aB,aA];refine aC (rV (.of (y.v+y.v))) rfl ?_;dsimp only [aB,aA];refine aC (BM (.of (y.v+y.v).abs) (.of aJ) 2000 8388608 (dQ ((hyf.add hyf).mono (by omega))) hrf (by omega)) rfl ?_;dsimp only [aB,aA];refine vn dB rfl ?_;dsimp only [aB,aA];refine vs _ rfl (fun h69=>?_) (fun h69=>?_)
   ·have hfar:¬ y.v.abs*2≤aJ:=fun h=>by
     have h3:=fZ.2 h;rw [←LZ] at h3;exact absurd h69 (by show ¬ (0:Int)<lE (y.v+y.v).abs aJ;omega)
    rw [Ua hr hv hfar];dsimp only;refine vn bL rfl ?_;dsimp only [aB,aA];refine vs _ rfl (fun h71=>?_) (fun h71=>?_)
    ·refine vn (aP Ae rfl) rfl ?_;dsimp only [aB,aA];refine vn bL rfl ?_;dsimp only [aB,aA];refine vs _ rfl (fun h74=>?_) (fun h74=>?_)
     ·refine aC gU rfl ?_;exact aL rfl
     exact absurd rfl h74
    exact absurd rfl h71
   have hnear:y.v.abs*2≤aJ:=by
    rw [←LZ]
    exact fZ.1 (by have h3:¬ (0:Int)<lE (y.v+y.v).abs aJ:=h69
                   omega)
   have S:=YU hr hv (by omega) hyb hyf hnear hg2;refine aC (DI hX hr S rfl) rfl ?_;dsimp only [aB,aA];refine vn dB rfl ?_;dsimp only [aB,aA];refine vs _ rfl (fun h81=>?_) (fun h81=>?_)
   ·have hn:fB E x.v aJ st y.v (E.length-1-1) g=none:=by
     cases hn:fB E x.v aJ st y.v (E.length-1-1) g with
     | none=>rfl
     | some N=>rw [IU hn] at h81;exact absurd (show (0:Int)<0 from h81) (by decide)
    rw [Rc hr hv hnear hn,Cm hn];dsimp only;refine aC ac5 rfl ?_;dsimp only [aB,aA];refine vn bL rfl ?_;dsimp only [aB,aA];refine vs _ rfl (fun h84=>?_) (fun h84=>?_)
    ·refine vn (aP Ae rfl) rfl ?_;dsimp only [aB,aA];refine vn bL rfl ?_;dsimp only [aB,aA];refine vs _ rfl (fun h87=>?_) (fun h87=>?_)
     ·refine aC gU rfl ?_;exact aL rfl
     exact absurd rfl h87
    exact absurd rfl h84
   obtain ⟨N,hn⟩:∃ N,fB E x.v aJ st y.v (E.length-1-1) g=some N:=by
    cases hn:fB E x.v aJ st y.v (E.length-1-1) g with
    | none=>rw [Cm hn] at h81;exact absurd (show (0:Int)<1 by decide) h81
    | some N=>exact ⟨N,rfl⟩
   rw [VL hr hv hnear hn,IU hn];dsimp only;refine vn gO rfl ?_;dsimp only [aB,aA];refine vs _ rfl (fun h93=>?_) (fun h93=>?_)
   ·exact absurd rfl h93
   refine vn (aP Ae ((List.length_map _).trans List.length_range)) rfl ?_;dsimp only [aB,aA];refine vn (aP ZE ((List.length_map _).trans List.length_range)) rfl ?_;dsimp only [aB,aA];refine vn gO rfl ?_;dsimp only [aB,aA];refine vs _ rfl (fun h98=>?_) (fun h98=>?_)
   ·exact absurd rfl h98
   refine bC {d:Nat // d≤E.length-1} (fun g=>[.one (.bool false), .one (.int .i64 g.1)]) (fun g=>E.length-1-g.1) ⟨0,Nat.zero_le _⟩ aO.rfl (fun _=>rfl) ?_;rintro ⟨d,hd⟩;dsimp only [aB,aA] at hd ⊢;refine vn (aP Ae ((List.length_map _).trans List.length_range)) rfl ?_;dsimp only [aB,aA];refine vn bB rfl ?_;dsimp only [aB,aA];refine vs _ rfl (fun h103=>?_) (fun h103=>?_)
   ·have hd1:d<E.length-1:=by omega
    have hdx:(List.range (E.length-1))[d]? = some d:=List.getElem?_range hd1;refine vn (aW Ae (by omega) (Int.toNat_natCast d) hdx) rfl ?_;dsimp only [aB,aA];refine vn (bF aP7) rfl ?_;dsimp only [aB,aA];refine vn (aW ZE (by omega) (Int.toNat_natCast d) hdx) rfl ?_;dsimp only [aB,aA];refine vn (bF aE7) rfl ?_;dsimp only [aB,aA];refine aC (ID hX hr S hn hd1) rfl ?_;dsimp only [aB,aA];refine vn gX rfl ?_;dsimp only [aB,aA];refine rA false rfl (fun h=>by cases h) (fun _=>?_);refine vn (aE (by omega) (by omega)) rfl ?_;dsimp only [aB,aA];exact aR rfl ⟨⟨d+1,by omega⟩,aO.rfl,by show E.length-1-(d+1)<E.length-1-d;omega⟩
   refine aC gU rfl ?_;exact aL rfl
  refine aC (oU hX y.v g hyb hyf hg2 (fun aJ st hv _ h=>absurd h (by rw [hreg];decide))) rfl ?_;dsimp only [aB,aA];refine aC (kR hX) rfl ?_;rw [hok];dsimp only [aB,aA];refine vn gX rfl ?_;dsimp only [aB,aA];refine rA false rfl (fun h=>by cases h) (fun _=>?_);refine aC (lT hX hok) rfl ?_;rw [hreg];dsimp only [aB,aA];refine vn gX rfl ?_;dsimp only [aB,aA];refine rA true rfl (fun _=>?_) (fun h=>by cases h);rw [Sq hok hreg];dsimp only;refine vn bL rfl ?_;dsimp only [aB,aA];refine vs _ rfl (fun h133=>?_) (fun h133=>?_)
  ·refine vn (aP Ae rfl) rfl ?_;dsimp only [aB,aA];refine vn bL rfl ?_;dsimp only [aB,aA];refine vs _ rfl (fun h136=>?_) (fun h136=>?_)
   ·refine aC gU rfl ?_;exact aL rfl
   exact absurd rfl h136
  exact absurd rfl h133
 refine aC (oU hX y.v g hyb hyf hg2 (fun aJ st hv h _=>absurd h (by rw [hok];decide))) rfl ?_;dsimp only [aB,aA];refine aC (kR hX) rfl ?_;rw [hok];dsimp only [aB,aA];refine vn gX rfl ?_;dsimp only [aB,aA];refine rA true rfl (fun _=>?_) (fun h=>by cases h);rw [QN hok];dsimp only;refine vn bL rfl ?_;dsimp only [aB,aA];refine vs _ rfl (fun h209=>?_) (fun h209=>?_)
 ·refine vn (aP Ae rfl) rfl ?_;dsimp only [aB,aA];refine vn bL rfl ?_;dsimp only [aB,aA];refine vs _ rfl (fun h212=>?_) (fun h212=>?_)
  ·refine aC gU rfl ?_;exact aL rfl
  exact absurd rfl h212
 exact absurd rfl h209
end Go.Sy
