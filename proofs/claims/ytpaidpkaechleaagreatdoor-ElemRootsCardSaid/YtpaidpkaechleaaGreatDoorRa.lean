/- Part. -/
import Derived.Test.YtpaidpkaechleaaGreatDoorNb
set_option linter.all false
namespace Go.Sy
open Go Go.Proofs Tryz Ord
def Fk:Tr:=.ret [(W 1 0)]
def Vl:Tr:=.split (.u 3 0) (.need (.prim [(W 1 0),(WK 0)] none) (.indexAddr 31 (tT 7) (.const (I3 0))) 0 false (oO 4 0 none 3 8 (aN .eql 3 9 0 5 0 4 (.split (.u 6 0) (.need (.prim [(W 1 0),(WK 1)] none) (.slice 31 (tT 12) (some (.const (I3 1))) none none) 31 false (.back 0 [lV 7 0])) Fk)))) Fk
def Yn:Tr:=.loop 0 [lV 0 0] (eU 1 0 3 31 (aN .gtr 3 4 0 2 0 4 Vl))
theorem KZ:aI prog f157 (fun _=>none) [.v none]=Yn:=by kernel_rfl
def XQ:Tr:=aC 157 [(W 1 0)] [none] [5] [31] 31 true (eU 2 0 7 31 (aN .eql 3 8 0 3 0 4 (.split (.u 4 0) (.ret [(.agg [(tE (.int .i64 0)),tN])]) (.ret [(.agg [(U 0 0),(U 2 0)])]))))
theorem Oq:aI prog f114 (fun _=>none) [.v none, .v none]=XQ:=by kernel_rfl
def VA:Tr:=aN .lss 3 12 0 5 0 4 (.split (.u 6 0) (.need (.prim [(W 5 0)] none) (.unOp .neg 3 (tT 14)) 3 false (.need (.lit 1 [[(.u 7 0)]]) (.buildSlice 31 1 #[(0,(tT 16))]) 31 false (.need (.app 1 8 (some 8) none (some 3)) (.call ⟨.builtin .append,#[(tT 17),(tT 18)],#[31,31]⟩) 31 false (aN .quo 2 20 32768 2 0 2 (.back 0 [lV 10 0, .row 9]))))) (.need (.lit 1 [[(.u 5 0)]]) (.buildSlice 31 1 #[(0,(tT 16))]) 31 false (.need (.app 1 8 (some 7) none (some 3)) (.call ⟨.builtin .append,#[(tT 17),(tT 18)],#[31,31]⟩) 31 false (aN .quo 2 20 32768 2 0 2 (.back 0 [lV 9 0, .row 8])))))
def PD:Tr:=aN .rem 2 10 32768 2 0 2 VA
def LL:Tr:=.ret [(G2 5)]
def VX:Tr:=aN .lss 2 6 0 0 0 4 (.split (.u 1 0) (.loop 0 [lV 0 0, .nilrow] (aN .neq 2 8 0 2 0 4 (.split (.u 4 0) PD (aC 114 [(WK (-1)),(.one (.c (.sr 1 3)))] [(some 2)] [22,23] [3,31] 33 true LL)))) (.loop 0 [lV 0 0, .nilrow] (aN .neq 2 8 0 2 0 4 (.split (.u 4 0) PD (aC 114 [(WK 1),(.one (.c (.sr 1 3)))] [(some 2)] [22,23] [3,31] 33 true LL)))))
theorem NT:aI prog f59 (fun _=>none) [.v none]=VX:=by kernel_rfl
def Qi:Tr:=.ret [(WK (-1))]
def PH:Tr:=.ret [(WK 1)]
def TG:Tr:=oO 14 0 none 3 33 (sF 1 0 6 0 31 35 36 (oO 16 0 none 3 37 (cC .gtr 3 34 38 15 0 17 0 4 (.split (.u 18 0) PH (aN .add 3 20 1 6 0 3 (.back 0 [lV 5 0,lV 19 0]))))))
def QD:Tr:=sF 0 0 6 0 31 22 23 (oO 9 0 none 3 24 (sF 1 0 6 0 31 26 27 (oO 11 0 none 3 28 (cC .lss 3 25 29 10 0 12 0 4 (.split (.u 13 0) Qi (sF 0 0 6 0 31 31 32 TG))))))
def Mw:Tr:=.ret [(WK 0)]
def Vm:Tr:=eU 1 0 8 31 (cC .neq 3 7 9 2 0 3 0 4 (.split (.u 4 0) (eU 0 0 11 31 (eU 1 0 13 31 (cC .lss 3 12 14 5 0 6 0 4 (.split (.u 7 0) Qi PH)))) (.loop 0 [lK 0,lK 0] (eU 0 0 17 31 (cC .lss 3 16 18 6 0 7 0 4 (.split (.u 8 0) QD Mw))))))
def Wb:Tr:=eU 0 0 6 31 Vm
theorem Lb:aI prog f116 (fun _=>none) [.v none, .v none]=Wb:=by kernel_rfl
def UU:Tr:=.split (.u 3 0) Mw (eU 0 0 10 31 (aN .sub 3 11 1 4 0 3 (cC .sub 3 12 13 5 0 1 0 3 (sF 0 0 6 0 31 9 14 (oO 7 0 none 3 15 (.ret [(W 8 0)]))))))
def VW:Tr:=eU 0 0 6 31 (cC .geq 3 5 7 1 0 2 0 4 UU)
theorem Lr:aI prog f160 (fun _=>none) [.v none, .v none]=VW:=by kernel_rfl
def PE:Tr:=.ret [(W 5 0)]
def Va:Tr:=eU 0 0 5 31 (eU 1 0 7 31 (cC .gtr 3 6 8 2 0 3 0 4 (.split (.u 4 0) (eU 0 0 10 31 PE) (eU 1 0 12 31 PE))))
theorem EJ:aI prog f159 (fun _=>none) [.v none, .v none]=Va:=by kernel_rfl
def TT:Tr:=aN .sub 3 40 32768 16 0 3 (aN .sub 3 43 1 4 0 3 (cC .sub 3 44 45 19 0 7 0 3 (.need (.idx 8 (.u 20 0)) (.indexAddr 31 (tT 42) (tT 46)) 0 false (.need (.strow 8 1 (.u 20 0) 0 [(.u 18 0)]) (.store 3 (tT 48) (tT 47)) 0 false (aN .add 3 21 1 7 0 3 (.back 0 [lK 1,lV 22 0, .row 21]))))))
def QL:Tr:=.split (.u 17 0) TT (aN .sub 3 43 1 4 0 3 (cC .sub 3 44 45 18 0 7 0 3 (.need (.idx 8 (.u 19 0)) (.indexAddr 31 (tT 42) (tT 46)) 0 false (.need (.strow 8 1 (.u 19 0) 0 [(.u 16 0)]) (.store 3 (tT 48) (tT 47)) 0 false (aN .add 3 21 1 7 0 3 (.back 0 [lK (-1),lV 21 0, .row 20]))))))
def Ul:Tr:=aN .sub 3 40 32768 14 0 3 (aN .sub 3 43 1 4 0 3 (cC .sub 3 44 45 18 0 7 0 3 (.need (.idx 8 (.u 19 0)) (.indexAddr 31 (tT 42) (tT 46)) 0 false (.need (.strow 8 1 (.u 19 0) 0 [(.u 17 0)]) (.store 3 (tT 48) (tT 47)) 0 false (aN .add 3 21 1 7 0 3 (.back 0 [lK 1,lV 21 0, .row 20]))))))
def RF:Tr:=.split (.u 16 0) Ul (aN .sub 3 43 1 4 0 3 (cC .sub 3 44 45 17 0 7 0 3 (.need (.idx 8 (.u 18 0)) (.indexAddr 31 (tT 42) (tT 46)) 0 false (.need (.strow 8 1 (.u 18 0) 0 [(.u 14 0)]) (.store 3 (tT 48) (tT 47)) 0 false (aN .add 3 21 1 7 0 3 (.back 0 [lK 0,lV 20 0, .row 19]))))))
def Xj:Tr:=cC .mul 3 26 29 2 0 11 0 3 (cC .add 3 25 30 10 0 12 0 3 (cC .add 3 31 32 13 0 6 0 3 (aN .lss 3 34 0 14 0 4 (.split (.u 15 0) (aN .add 3 36 32768 14 0 3 (aN .geq 3 38 32768 16 0 4 QL)) (aN .geq 3 38 32768 14 0 4 RF)))))
def Xo:Tr:=aN .add 3 14 1 3 0 3 (.need (.make [(.int .i64 0)] 8 (.u 4 0) (.u 4 0)) (.makeSlice 31 (tT 16) (tT 16)) 31 false (.loop 0 [lK 0,lK 0, .row 5] (cC .lss 3 18 19 7 0 4 0 4 (.split (.u 9 0) (aC 160 [(W 0 0),(W 7 0)] [none] [23,24] [31,3] 3 false (aC 160 [(W 1 0),(W 7 0)] [none] [27,28] [31,3] 3 false Xj)) (aC 157 [(.one (.c (.sr 1 8)))] [none] [49] [31] 31 true (.ret [(W 10 0)]))))))
def XA:Tr:=aC 159 [(W 0 0),(W 1 0)] [none] [12,13] [31,31] 3 true Xo
theorem Od:aI prog f115 (fun _=>none) [.v none, .v none, .v none]=XA:=by kernel_rfl
def PG:Tr:=.ret [(.agg [(U 1 0),(U 0 1)])]
def WS:Tr:=.need (.prim [(W 0 0)] none) (.unOp .neg 3 (tT 4)) 3 false PG
theorem Ox:aI prog f113 (fun _=>none) [.v (some 2)]=WS:=by kernel_rfl
def WM:Tr:=cC .mul 3 4 6 0 0 0 0 3 PG
theorem Pk:aI prog f49 (fun _=>none) [.v (some 2)]=WM:=by kernel_rfl
def Fa:Tr:=.ret [(G2 8)]
def Yb:Tr:=cC .eql 3 14 16 0 0 1 0 4 (.split (.u 4 0) (.need (.call 115 [(W 0 1),(W 1 1),(WK 1)] [none]) (.call ⟨.value (.func 115),#[(tT 21),(tT 23),(.const (I3 1))],#[31,31,3]⟩) 31 true (aC 114 [(W 0 0),(W 5 0)] [(some 2)] [19,24] [3,31] 33 true (.ret [(G2 6)]))) (aC 116 [(W 0 1),(W 1 1)] [none] [27,29] [31,31] 3 true (aN .geq 3 30 0 5 0 4 (.split (.u 6 0) (.need (.call 115 [(W 0 1),(W 1 1),(WK (-1))] [none]) (.call ⟨.value (.func 115),#[(tT 35),(tT 37),(.const (I3 (-1)))],#[31,31,3]⟩) 31 true (aC 114 [(W 0 0),(W 7 0)] [(some 2)] [33,38] [3,31] 33 true Fa)) (.need (.call 115 [(W 1 1),(W 0 1),(WK (-1))] [none]) (.call ⟨.value (.func 115),#[(tT 43),(tT 45),(.const (I3 (-1)))],#[31,31,3]⟩) 31 true (aC 114 [(W 1 0),(W 7 0)] [(some 2)] [41,46] [3,31] 33 true Fa))))))
def Yo:Tr:=aN .eql 3 6 0 0 0 4 (.split (.u 2 0) (.ret [(G2 1)]) (aN .eql 3 10 0 1 0 4 (.split (.u 3 0) (.ret [(G2 0)]) Yb)))
theorem MS:aI prog f61 (fun _=>none) [.v (some 2), .v (some 2)]=Yo:=by kernel_rfl
def Yc:Tr:=aC 113 [(G2 1)] [(some 2)] [6] [33] 33 true (aC 61 [(G2 0),(G2 2)] [(some 2)] [5,7] [33,33] 33 true (.ret [(G2 3)]))
theorem Oj:aI prog f62 (fun _=>none) [.v (some 2), .v (some 2)]=Yc:=by kernel_rfl
def QF:Tr:=aN .add 3 58 1 27 0 3 (aN .rem 3 60 32768 26 0 3 (.need (.idx 15 (.u 28 0)) (.indexAddr 31 (tT 55) (tT 59)) 0 false (.need (.strow 15 1 (.u 28 0) 0 [(.u 29 0)]) (.store 3 (tT 62) (tT 61)) 0 false (aN .quo 3 63 32768 26 0 3 (aN .sub 3 32 1 14 0 3 (.back 1 [lV 31 0,lV 32 0, .row 30]))))))
def Th:Tr:=oO 20 0 none 3 44 (sF 1 1 14 0 31 47 48 (oO 22 0 none 3 49 (cC .mul 3 45 50 21 0 23 0 3 (cC .add 3 40 51 19 0 24 0 3 (cC .add 3 52 53 25 0 13 0 3 (cC .add 3 56 57 8 0 14 0 3 QF))))))
def Sk:Tr:=aN .geq 3 30 0 14 0 4 (.split (.u 16 0) (cC .add 3 35 36 8 0 14 0 3 (aN .add 3 37 1 17 0 3 (.need (.idx 15 (.u 18 0)) (.indexAddr 31 (tT 34) (tT 38)) 0 false (.need (.ldrow 15 (.u 18 0) 0 1 false) (.load 3 (tT 39)) 3 false (sF 0 1 8 0 31 42 43 Th))))) (.need (.idx 15 (.u 8 0)) (.indexAddr 31 (tT 65) (tT 66)) 0 false (.need (.strow 15 1 (.u 8 0) 0 [(.u 13 0)]) (.store 3 (tT 68) (tT 67)) 0 false (aN .sub 3 24 1 8 0 3 (.back 0 [lV 18 0, .row 17])))))
def WZ:Tr:=aN .sub 3 20 1 6 0 3 (.loop 0 [lV 7 0, .row 5] (aN .geq 3 22 0 8 0 4 (.split (.u 10 0) (eU 1 1 27 31 (aN .sub 3 28 1 11 0 3 (.loop 1 [lK 0,lV 12 0, .row 9] Sk))) (cC .mul 3 70 72 0 0 1 0 3 (aC 114 [(W 11 0),(.one (.c (.sr 1 9)))] [(some 2)] [73,74] [3,31] 33 true (.ret [(G2 12)]))))))
def YB:Tr:=eU 0 1 11 31 (eU 1 1 14 31 (cC .add 3 12 15 2 0 3 0 3 (.need (.make [(.int .i64 0)] 8 (.u 4 0) (.u 4 0)) (.makeSlice 31 (tT 16) (tT 16)) 31 false (eU 0 1 19 31 WZ))))
theorem ND:aI prog f54 (fun _=>none) [.v (some 2), .v (some 2)]=YB:=by kernel_rfl
def YL:Tr:=aC 62 [(G2 0),(G2 1)] [(some 2)] [5,6] [33,33] 33 true (.ret [(W 2 0)])
theorem OX:aI prog f60 (fun _=>none) [.v (some 2), .v (some 2)]=YL:=by kernel_rfl
abbrev rB (ds:List Nat):List (List aL):=ds.map fun (d:Nat)=>[aL.int .i64 (d:Int)]
abbrev sB (ds:List Nat):aL:=.slice 1 (rB ds)
abbrev bT (n:Nat):aL:=sB (bd n)
abbrev zC (z:Int):List aL:=[.int .i64 z.sign,bT z.natAbs]
abbrev zT (z:Int):aD:=.agg (zC z)
theorem Js:DB 32768 []:=fun d hd=>by cases hd
theorem MG {n:Nat} (h:n=0):aL.Sub (.exact (.slice none 0 0)) (bT n):=by
 subst h;rw [bT,uZ];exact aL.Sub.nil
theorem sliceB {ds:List Nat} {x:Operand} {ty:Nat} {y:Operand} {k:IntKind} {n:Int} {m:Nat} (hm:n.toNat=m) (h0:0≤n:=by omega) (hn:m≤ds.length:=by omega):aP prog (.slice 31 x (some y) none none) ty [.one (sB ds), .one (.int k n)] (.one (sB (ds.drop m))):=by
 have:=Il (P:=prog) (T:=31) (x:=x) (y:=y) (ty:=ty) (k:=k) (n:=n) (ts:=rB ds) dM h0 (by rw [bF,hm];exact hn);rw [hm,rB,←List.map_drop] at this;exact this
theorem Pg {ds:List Nat} {x:Operand} {ty:Nat} {y:Operand} {k:IntKind} {n:Int} {m:Nat} (h0:0≤n:=by omega) (hm:n.toNat=m:=by omega) (hn:m≤ds.length:=by omega):aP prog (.slice 31 x none (some y) none) ty [.one (sB ds), .one (.int k n)] (.one (sB (ds.take m))):=by
 have:=HP (P:=prog) (T:=31) (x:=x) (y:=y) (ty:=ty) (k:=k) (n:=n) (ts:=rB ds) dM h0 (by rw [bF,hm];exact hn);rw [hm,rB,←List.map_take] at this;exact this
theorem mU (ds:List Nat) (hd:DB 32768 ds) (hs:ds.length<4611686018427387904:=by omega):aJ prog 157 [(.one (sB ds):aD)] (.ret [.one (bT (bv ds))]):=by
 refine bO func157 KZ ?_;refine bE {xs:List Nat // DB 32768 xs∧bv xs=bv ds∧xs.length≤ds.length} (fun g=>[.one (sB g.1)]) (fun g=>g.1.length) ⟨ds,hd,rfl,bQ _⟩ aM.rfl (fun _=>rfl) ?_;rintro ⟨xs,hx,hv,hl⟩;dsimp only [aG,aH] at hx hv hl ⊢;apply vn (bB dM (bF _)) rfl;apply vn bC rfl;refine vs _ rfl ?_ ?_<;>intro h3
 ·obtain ⟨d,hget⟩:∃ d,xs[0]? = some d:=⟨_,dJ (by omega)⟩
  apply vn (dC dM hget) rfl;apply vn (cL Iy) rfl;dsimp only [aG,aH];apply vn aO rfl;refine vs _ rfl ?_ ?_<;>intro h7
  ·apply vn (sliceB rfl) rfl
   exact aZ rfl ⟨⟨xs.drop 1,hx.drop 1,by
    have h7:d=0:=by omega
    rw [←hv,HG hget,h7,Nat.mul_zero,Nat.add_zero],by show (xs.drop 1).length≤_;rw [List.length_drop];omega⟩,aM.rfl,by show (xs.drop 1).length<xs.length;rw [List.length_drop];omega⟩
  have e:bd (bv ds)=xs:=by
   rw [←hv];refine Ww hx fun d' h'=>?_;rw [List.head?_eq_getElem?,hget] at h';simp only [aK] at h';subst h';omega
  rw [bT,e];exact aE rfl
 have e:bd (bv ds)=xs:=by
  have:xs = []:=List.eq_nil_of_length_eq_zero (by omega);rw [←hv,this];exact uZ
 rw [bT,e];exact aE rfl
theorem dR (s z:Int) (ds:List Nat) (hd:DB 32768 ds) (h1:z.natAbs=bv ds) (h2:bv ds≠0→z.sign=s) (hs:ds.length<4611686018427387904:=by omega):aJ prog 114 [(.one (.int .i64 s):aD),(.one (sB ds):aD)] (.ret [zT z]):=by
 refine bO func114 Oq ?_;have hlen:(bd (bv ds)).length=0↔bv ds=0:=by rw [List.length_eq_zero_iff,wO]
 have hl2:(bd (bv ds)).length≤ds.length:=gC (Ev hd);apply aA (mU ds hd hs) rfl;apply vn (bB dM (bF _)) rfl;apply vn aO rfl;refine vs _ rfl ?_ ?_<;>intro h3
 ·have hz:z=0:=by
   have:=hlen.1 (by omega);omega
  subst hz;exact nJ ⟨⟨aL.Sub.same,MG rfl,trivial⟩,trivial⟩
 refine aE ?_;rw [←h2 (fun h=>h3 (by have:=hlen.2 h;omega)),←h1];rfl
theorem Cq {ds:List Nat} {m n:Nat} (hm:m≠0) (h:bv ds+32768^ds.length*m=n) (hn:n<18446744073709551616:=by omega):ds.length≤4:=by
 rcases Nat.lt_or_ge ds.length 5 with h1 | h1
 ·omega
 ·have h2:32768^5≤32768^ds.length:=Nat.pow_le_pow_right (by omega) h1;have h3:32768^ds.length≤32768^ds.length*m:=Nat.le_mul_of_pos_right _ (by omega);omega
theorem sJ {ds:List Nat} {m n:Nat} (h:bv ds+32768^ds.length*m=n):bv (m%32768::ds)+32768^(m%32768::ds).length*(m/32768)=n:=by
 rw [uB,List.length_cons,Nat.pow_succ,Nat.add_assoc,Nat.mul_assoc,←Nat.mul_add,Nat.mod_add_div];exact h
theorem neg_tmod {m:Nat}:(-(m:Int)).tmod 32768 = -((m%32768:Nat):Int):=by rw [Int.neg_tmod,Int.tmod_eq_emod_of_nonneg (by omega)];omega
theorem neg_tdiv {m:Nat}:(-(m:Int)).tdiv 32768 = -((m/32768:Nat):Int):=by rw [Int.neg_tdiv,Int.tdiv_eq_ediv_of_nonneg (by omega)];omega
theorem dI (n:Int) (h1:-9223372036854775808≤n:=by omega) (h2:n<9223372036854775808:=by omega):aJ prog 59 [(.one (.int .i64 n):aD)] (.ret [zT n]):=by
 refine bO func59 NT ?_;apply vn bA rfl;refine vs _ rfl (fun h1=>?_) (fun h1'=>?_)
 ·refine bE {g:Nat×List Nat // bv g.2+32768^g.2.length*g.1=n.natAbs∧DB 32768 g.2∧g.1≤9223372036854775808∧g.2.length≤5} (fun g=>[.one (.int .i64 (-(g.1.1:Int))), .rows (rB g.1.2)]) (fun g=>g.1.1) ⟨(n.natAbs,[]),by simp [bv,val],Js,by show n.natAbs≤_;omega,by simp⟩ ⟨aD.Sub.of_eq (congrArg (fun q=>aD.one (aL.int .i64 q)) (by show n = -((n.natAbs:Nat):Int);omega)),aD.Sub.same,trivial⟩ (fun _=>rfl) ?_;rintro ⟨⟨m,ds⟩,hv,hd,hm,hl⟩;dsimp only [aG,aH] at hv hd hm hl ⊢;apply vn bW rfl;refine vs _ rfl ?_ ?_<;>intro h4
  ·have hm0:m≠0:=by omega
   have hl4:=Cq hm0 hv
   have hd2:DB 32768 (m%32768::ds):=fun d hd'=>by
    rcases List.mem_cons.1 hd' with rfl | hd'
    ·omega
    ·exact hd d hd'
   apply vn (wL (c:=-((m%32768:Nat):Int)) (by decide) neg_tmod) rfl;apply vn bA rfl;refine vs _ rfl ?_ ?_<;>intro h7
   ·apply vn (zO) rfl;dsimp only [aG,aH];refine tQ (us:=rB [m%32768]) (by show [[aL.int .i64 _]] = [[aL.int .i64 _]];congr 3;omega) ?_;refine yO (ts:=rB [m%32768]) (us:=rB ds) (vs:=rB (m%32768::ds)) rfl rfl rfl (by simp;omega) (by simp [maxLen];omega) ?_;apply vn (kV (c:=-((m/32768:Nat):Int)) (by decide) (by rw [neg_tdiv];exact dD)) rfl;dsimp only [aG,aH];exact aZ rfl ⟨⟨(m/32768,m%32768::ds),sJ hv,hd2,by show m/32768≤_;omega,by show ds.length+1≤5;omega⟩,aM.rfl,by show m/32768<m;omega⟩
   refine tQ (us:=rB [m%32768]) (by show [[aL.int .i64 _]] = [[aL.int .i64 _]];congr 3;omega) ?_;refine yO (ts:=rB [m%32768]) (us:=rB ds) (vs:=rB (m%32768::ds)) rfl rfl rfl (by simp;omega) (by simp [maxLen];omega) ?_;apply vn (kV (c:=-((m/32768:Nat):Int)) (by decide) (by rw [neg_tdiv];exact dD)) rfl;dsimp only [aG,aH];exact aZ rfl ⟨⟨(m/32768,m%32768::ds),sJ hv,hd2,by show m/32768≤_;omega,by show ds.length+1≤5;omega⟩,aM.rfl,by show m/32768<m;omega⟩
  have hm0:m=0:=by omega
  subst hm0;rw [Nat.mul_zero,Nat.add_zero] at hv;apply aA (dR (-1) n ds hd hv.symm (fun _=>Int.sign_eq_neg_one_of_neg h1)) rfl;exact aE rfl
 refine bE {g:Nat×List Nat // bv g.2+32768^g.2.length*g.1=n.natAbs∧DB 32768 g.2∧g.1≤9223372036854775808∧g.2.length≤5∧g.1<9223372036854775808} (fun g=>[.one (.int .i64 (g.1.1:Int)), .rows (rB g.1.2)]) (fun g=>g.1.1) ⟨(n.natAbs,[]),by simp [bv,val],Js,by show n.natAbs≤_;omega,by simp,by show n.natAbs<_;omega⟩ ⟨aD.Sub.of_eq (congrArg (fun q=>aD.one (aL.int .i64 q)) (by show n=((n.natAbs:Nat):Int);omega)),aD.Sub.same,trivial⟩ (fun _=>rfl) ?_;rintro ⟨⟨m,ds⟩,hv,hd,hm,hl,hmm⟩;dsimp only [aG,aH] at hv hd hm hl hmm ⊢;apply vn bW rfl;refine vs _ rfl ?_ ?_<;>intro h21
 ·have hm0:m≠0:=by omega
  have hl4:=Cq hm0 hv
  have hd2:DB 32768 (m%32768::ds):=fun d hd'=>by
   rcases List.mem_cons.1 hd' with rfl | hd'
   ·omega
   ·exact hd d hd'
  apply vn (cK) rfl;apply vn bA rfl;refine vs _ rfl ?_ ?_<;>intro h24
  ·exfalso;omega
  refine tQ (us:=rB [m%32768]) (by show [[aL.int .i64 _]] = [[aL.int .i64 _]];congr 3) ?_;dsimp only [aG,aH];refine yO (ts:=rB [m%32768]) (us:=rB ds) (vs:=rB (m%32768::ds)) rfl rfl rfl (by simp;omega) (by simp [maxLen];omega) ?_;apply vn (iR) rfl;dsimp only [aG,aH];exact aZ rfl ⟨⟨(m/32768,m%32768::ds),sJ hv,hd2,by show m/32768≤_;omega,by show ds.length+1≤5;omega,by show m/32768<_;omega⟩,aM.rfl,by show m/32768<m;omega⟩
 have hm0:m=0:=by omega
 subst hm0;rw [Nat.mul_zero,Nat.add_zero] at hv;apply aA (dR 1 n ds hd hv.symm (fun h=>Int.sign_eq_one_of_pos (by omega))) rfl;exact aE rfl
theorem CK {xs ys:List Nat} (hx:DB 32768 xs) {i x y:Nat} (hl:xs.length=ys.length) (hi:xs[i]? = some x) (hj:ys[i]? = some y) (ht:xs.take i=ys.take i) (hxy:x<y:=by omega):bv xs<bv ys:=by
 have e:∀ (zs:List Nat) (z:Nat),zs[i]? = some z→bv zs=bv (zs.take i)*32768^(zs.length-i)+(bv (zs.drop (i+1))+32768^(zs.length-(i+1))*z):=fun zs z hz=>by
  have hlt:i<zs.length:=(fJ.1 hz).1
  conv=>lhs;rw [←List.take_append_drop i zs]
  rw [Iq,List.length_drop]
  congr 1
  rw [List.drop_eq_getElem_cons hlt,(fJ.1 hz).2,uB,List.length_drop]
 rw [e xs x hi,e ys y hj,ht,hl];have h1:=Ev (hx.drop (i+1));rw [List.length_drop,hl] at h1;have h2:32768^(ys.length-(i+1))*(x+1)≤32768^(ys.length-(i+1))*y:=Nat.mul_le_mul_left _ hxy;rw [Nat.mul_add,Nat.mul_one] at h2;omega
theorem oW {a b:Nat} (h:(bd a).length<(bd b).length:=by omega):a<b:=by
 rcases Nat.lt_or_ge a b with h1 | h1
 ·exact h1
 ·have:=cQ h1;omega
theorem kS (a b:Nat) (hs:(bd a).length+(bd b).length<1099511627776:=by omega):aJ prog 116 [(.one (bT a):aD),(.one (bT b):aD)] (.ret [.one (.int .i64 (cR a b))]):=by
 refine bO func116 Lb ?_;apply vn (bB dM (bF _)) rfl;apply vn (bB dM (bF _)) rfl;apply vn bW rfl;refine vs _ rfl ?_ ?_<;>intro h3
 ·apply vn (bB dM (bF _)) rfl;dsimp only [aG,aH];apply vn (bB dM (bF _)) rfl;apply vn bA rfl;refine vs _ rfl ?_ ?_<;>intro h7
  ·rw [nO (by have:=oW (a:=a) (b:=b);omega)];exact aE rfl
  rw [nY (by have:=oW (a:=b) (b:=a);omega)];exact aE rfl
 have hlen:(bd a).length=(bd b).length:=by omega
 refine bE {i:Nat // i≤(bd a).length∧(bd a).take i=(bd b).take i} (fun g=>[.one (.int .i64 0), .one (.int .i64 g.1)]) (fun g=>(bd a).length-g.1) ⟨0,fK _,rfl⟩ aM.rfl (fun _=>rfl) ?_;rintro ⟨i,hi,ht⟩;dsimp only [aG,aH] at hi ht ⊢;apply vn (bB dM (bF _)) rfl;apply vn bA rfl;refine vs _ rfl ?_ ?_<;>intro h13
 ·obtain ⟨x,hx⟩:∃ x,(bd a)[i]? = some x:=⟨_,dJ (by omega)⟩
  obtain ⟨y,hy⟩:∃ y,(bd b)[i]? = some y:=⟨_,dJ (by omega)⟩
  apply vn (dC dM hx) rfl;apply vn (cL Iy) rfl;dsimp only [aG,aH];apply vn (dC dM hy) rfl;apply vn (cL Iy) rfl;apply vn bA rfl;refine vs _ rfl ?_ ?_<;>intro h19
  ·have:=CK (eY a) hlen hx hy ht;rw [dF,dF] at this;rw [nO (by omega)];exact aE rfl
  apply vn (dC dM hx) rfl;dsimp only [aG,aH];apply vn (cL Iy) rfl;apply vn (dC dM hy) rfl;apply vn (cL Iy) rfl;apply vn bC rfl;dsimp only [aG,aH];refine vs _ rfl ?_ ?_<;>intro h26
  ·have:=CK (eY b) hlen.symm hy hx ht.symm;rw [dF,dF] at this;rw [nY (by omega)];exact aE rfl
  apply vn (aF) rfl;dsimp only [aG,aH];exact aZ rfl ⟨⟨i+1,by omega,by rw [take_succ hx,take_succ hy,ht,show x=y by omega]⟩,aM.rfl,by show (bd a).length-(i+1)<(bd a).length-i;omega⟩
 have hie:i=(bd a).length:=by omega
 subst hie
 have e:bd a=bd b:=by
  rw [List.take_length,List.take_of_length_le (by omega)] at ht;exact ht
 have:a=b:=by rw [←dF a,e,dF]
 rw [this,uJ];exact aE rfl
theorem vH (n i:Nat) (hs:(bd n).length<1099511627776:=by omega) (hi:i<4611686018427387904:=by omega):aJ prog 160 [(.one (bT n):aD),(.one (.int .i64 i):aD)] (.ret [.one (.int .i64 ((n/32768^i%32768:Nat):Int))]):=by
 refine bO func160 Lr ?_;have hdg:=Cw n i;apply vn (bB dM (bF _)) rfl;apply vn iC rfl;refine vs _ rfl ?_ ?_<;>intro h2
 ·rw [List.getElem?_eq_none_iff.2 (by rw [List.length_reverse];omega)] at hdg;rw [←hdg];exact aE rfl
 apply vn (bB dM (bF _)) rfl;apply vn (aR) rfl;dsimp only [aG,aH];apply vn (aR) rfl;dsimp only [aG,aH];obtain ⟨d,hd⟩:∃ d,(bd n).reverse[i]? = some d:=⟨_,dJ (by rw [List.length_reverse];omega)⟩
 have hd2:(bd n)[(bd n).length-1-i]? = some d:=by rw [uF];exact hd
 rw [hd] at hdg;apply vn (dC dM hd2) rfl;apply vn (cL Iy) rfl;dsimp only [aG,aH];rw [←hdg];exact aE rfl
theorem EY (a b:Nat):aJ prog 159 [(.one (bT a):aD),(.one (bT b):aD)] (.ret [.one (.int .i64 ((max (bd a).length (bd b).length:Nat):Int))]):=by
 refine bO func159 EJ ?_;apply vn (bB dM (bF _)) rfl;apply vn (bB dM (bF _)) rfl;apply vn bC rfl;refine vs _ rfl ?_ ?_<;>intro h3
 ·apply vn (bB dM (bF _)) rfl;dsimp only [aG,aH];refine aE ?_;show [aD.one (aL.int .i64 _)] = [aD.one (aL.int .i64 _)]
  congr 3;omega
 apply vn (bB dM (bF _)) rfl;dsimp only [aG,aH];refine aE ?_;show [aD.one (aL.int .i64 _)] = [aD.one (aL.int .i64 _)]
 congr 3;omega
theorem val_rev (n:Nat):val 32768 (bd n).reverse=n:=dF n
theorem Da (n i:Nat):(bd n).reverse[i]?.getD 0=n/32768^i%32768:=Cw n i
set_option maxHeartbeats 1000000 in
theorem gV (a b r:Nat) (k:Int) (hk:k=1∨k = -1) (hs2:(bd b).length<274877906944:=by omega) (hr:(r:Int)=a+k*b:=by omega) (hs:(bd a).length<274877906944:=by omega):aJ prog 115 [(.one (bT a):aD),(.one (bT b):aD),(.one (.int .i64 k):aD)] (.ret [.one (bT r)]):=by
 refine bO func115 Od ?_;obtain ⟨n,hn⟩:∃ n,max (bd a).length (bd b).length+1=n:=⟨_,rfl⟩
 have hrl:r<32768^n:=by
  have h1:=wD a;have h2:=wD b;have h3:32768^(bd a).length≤32768^(n-1):=Nat.pow_le_pow_right (by omega) (by omega);have h4:32768^(bd b).length≤32768^(n-1):=Nat.pow_le_pow_right (by omega) (by omega);have h5:32768^n=32768^(n-1)*32768:=by rw [←Nat.pow_succ];congr 1;omega
  rcases hk with rfl | rfl<;>omega
 apply aA (EY a b) rfl;apply vn (aF) rfl;dsimp only [aG,aH];refine vF (n:=n) (f:=fun d:Nat=>[aL.int .i64 (d:Int)]) 0 rfl rfl (by omega) rfl (by omega) (by simp only [maxLen];omega) ?_;refine bE {g:Nat×Int×List Nat // yA 32768 (bd a).reverse (bd b).reverse n k g.1 g.2.1 g.2.2} (fun g=>[.one (.int .i64 g.1.2.1), .one (.int .i64 g.1.1), .rows (rB g.1.2.2.reverse)]) (fun g=>n-g.1.1) ⟨(0,0,List.replicate n 0),yA.init (by omega) _ _ _ _⟩ ⟨aD.Sub.same,aD.Sub.same,aD.Sub.of_eq (by rw [List.reverse_replicate];rfl),trivial⟩ (fun _=>rfl) ?_;rintro ⟨⟨i,c,os⟩,hI⟩;dsimp only [aG,aH] at hI ⊢;have hil:=hI.le;have hol:=hI.len;have hc0:=hI.c0;have hc1:=hI.c1;apply vn bA rfl;refine vs _ rfl ?_ ?_<;>intro h5
 ·obtain ⟨x,hx⟩:∃ x,a/32768^i%32768=x:=⟨_,rfl⟩
  obtain ⟨y,hy⟩:∃ y,b/32768^i%32768=y:=⟨_,rfl⟩
  have hxB:x<32768:=by rw [←hx];exact Nat.mod_lt _ (by omega)
  have hyB:y<32768:=by rw [←hy];exact Nat.mod_lt _ (by omega)
  have hcall1:=vH a i;have hcall2:=vH b i;rw [hx] at hcall1;rw [hy] at hcall2
  have hnext:∀ (z:Nat) (c':Int),z<32768 → -1≤c'→c'≤1→(z:Int)+32768*c'=x+k*y+c→yA 32768 (bd a).reverse (bd b).reverse n k (i+1) c' (os.set i z):=fun z c' h1 h2 h3 h4=>
   hI.next (by omega) (by rw [Da,hx]) (by rw [Da,hy]) h2 h3 h1 h4
  have hst:∀ z,os.reverse.set (n-1-i) z=(os.set i z).reverse:=fun z=>by rw [←hol];exact Cb (by omega)
  obtain ⟨o0,hgo⟩:∃ o0,os.reverse[n-1-i]? = some o0:=⟨_,dJ (by rw [List.length_reverse];omega)⟩
  have hky:k*y=y∨k*y = -(y:Int):=by rcases hk with rfl | rfl<;>simp
  generalize hkyv:k*(y:Int)=ky at hnext hky;apply aA hcall1 rfl;apply aA hcall2 rfl;apply vn (oJ (c:=ky) (by rw [hkyv];exact dD)) rfl;dsimp only [aG,aH];apply vn (aF) rfl;apply vn (aF) rfl;apply vn bA rfl;refine vs _ rfl ?_ ?_<;>intro h12
  ·apply vn (aF) rfl;dsimp only [aG,aH];apply vn iC rfl;refine vs _ rfl ?_ ?_<;>intro h15
   ·exfalso;omega
   apply vn (aR) rfl;apply vn (aR) rfl;refine cO rfl rfl (by omega) (by rw [List.length_reverse];omega) ?_;refine kF (d':=(x+ky+c+32768).toNat) rfl rfl (by omega) (by omega) hgo (by show [aL.int .i64 _] = [aL.int .i64 _];congr 2;omega) ?_;rw [hst];dsimp only [aG,aH];apply vn (aF) rfl;dsimp only [aG,aH];exact aZ rfl ⟨⟨(i+1,-1,os.set i (x+ky+c+32768).toNat),hnext _ (-1) (by omega) (by omega) (by omega) (by omega)⟩,aM.rfl,by show n-(i+1)<n-i;omega⟩
  apply vn iC rfl;refine vs _ rfl ?_ ?_<;>intro h30
  ·apply vn (aR) rfl;apply vn (aR) rfl;apply vn (aR) rfl;dsimp only [aG,aH];refine cO rfl rfl (by omega) (by rw [List.length_reverse];omega) ?_;refine kF (d':=(x+ky+c-32768).toNat) rfl rfl (by omega) (by omega) hgo (by show [aL.int .i64 _] = [aL.int .i64 _];congr 2;omega) ?_;rw [hst];apply vn (aF) rfl;dsimp only [aG,aH];exact aZ rfl ⟨⟨(i+1,1,os.set i (x+ky+c-32768).toNat),hnext _ 1 (by omega) (by omega) (by omega) (by omega)⟩,aM.rfl,by show n-(i+1)<n-i;omega⟩
  apply vn (aR) rfl;apply vn (aR) rfl;refine cO rfl rfl (by omega) (by rw [List.length_reverse];omega) ?_;refine kF (d':=(x+ky+c).toNat) rfl rfl (by omega) (by omega) hgo (by show [aL.int .i64 _] = [aL.int .i64 _];congr 2;omega) ?_;rw [hst];apply vn (aF) rfl;dsimp only [aG,aH];exact aZ rfl ⟨⟨(i+1,0,os.set i (x+ky+c).toNat),hnext _ 0 (by omega) (by omega) (by omega) (by omega)⟩,aM.rfl,by show n-(i+1)<n-i;omega⟩
 have hie:i=n:=by omega
 subst hie;have hf:=hI.fin (by omega) (by rw [List.length_reverse];omega) (by rw [List.length_reverse];omega) (r:=r) (by rw [val_rev,val_rev];exact hr) hrl;apply aA (mU os.reverse hI.dg.rev (by rw [List.length_reverse];omega)) rfl;dsimp only [aG,aH];refine aE ?_;rw [←hf,bv,List.reverse_reverse];rfl
open Go Go.Proofs Tryz Ord
theorem uK (z:Int):-1≤z.sign∧z.sign≤1:=by rcases bD z with ⟨_,e⟩ | ⟨_,e⟩ | ⟨_,e⟩<;>omega
theorem vB (z:Int):aJ prog 113 [(zT z:aD)] (.ret [zT (-z)]):=by
 refine bO func113 Ox ?_;have:=uK z;apply vn (zO) rfl;dsimp only [aG,aH];refine aE ?_;show [aD.agg [.int .i64 (-z.sign),bT z.natAbs]] = [zT (-z)];rw [zT,zC,Int.sign_neg,Int.natAbs_neg]
theorem FL (z:Int):aJ prog 49 [(zT z:aD)] (.ret [zT (z.natAbs:Int)]):=by
 refine bO func49 Pk ?_
 apply vn (oJ (c:=((z.natAbs:Nat):Int).sign) (by
  rcases bD z with ⟨h,e⟩ | ⟨h,e⟩ | ⟨h,e⟩<;>rw [e]
  ·rw [Int.sign_eq_one_of_pos (by omega)];exact dD
  ·rw [h];exact dD
  ·rw [Int.sign_eq_one_of_pos (by omega)];exact dD)) rfl
 exact aE rfl
theorem Sz {a b:Nat}:(bd (a+b)).length≤max (bd a).length (bd b).length+1:=by
 apply gC;have h1:=wD a;have h2:=wD b;have h3:32768^(bd a).length≤32768^(max (bd a).length (bd b).length):=Nat.pow_le_pow_right (by omega) (by omega);have h4:32768^(bd b).length≤32768^(max (bd a).length (bd b).length):=Nat.pow_le_pow_right (by omega) (by omega);rw [Nat.pow_succ];omega
theorem tX (x y:Int) (hx:(bd x.natAbs).length<137438953472:=by omega) (hy:(bd y.natAbs).length<137438953472:=by omega):aJ prog 61 [(zT x:aD),(zT y:aD)] (.ret [zT (x+y)]):=by
 refine bO func61 MS ?_;have hx0:=bD x;have hy0:=bD y
 have hl:∀ n,n≤x.natAbs+y.natAbs→(bd n).length<274877906944:=fun n hn=>by
  have h1:=cQ hn;have h2:=Sz (a:=x.natAbs) (b:=y.natAbs);omega
 apply vn aO rfl;refine vs _ rfl ?_ ?_<;>intro h1
 ·rw [show x=0 by omega,Int.zero_add];exact aE rfl
 apply vn aO rfl;refine vs _ rfl ?_ ?_<;>intro h4
 ·rw [show y=0 by omega,Int.add_zero];exact aE rfl
 apply vn aO rfl;refine vs _ rfl ?_ ?_<;>intro h7
 ·apply aA (gV x.natAbs y.natAbs (x.natAbs+y.natAbs) 1 (.inl rfl)) rfl;dsimp only [aG,aH]
  apply aA (dR x.sign (x+y) _ (eY _) (by rw [dF];omega) (fun _=>by
   rcases hx0 with ⟨h,e⟩ | ⟨h,e⟩ | ⟨h,e⟩
   ·rw [e];exact Int.sign_eq_neg_one_of_neg (by omega)
   ·omega
   ·rw [e];exact Int.sign_eq_one_of_pos (by omega)) (by have:=hl _ (bQ _);omega)) rfl
  exact aE rfl
 apply aA (kS x.natAbs y.natAbs) rfl;apply vn iC rfl;dsimp only [aG,aH]
 have hci:(0≤cR (x.natAbs:Int) (y.natAbs:Int))↔y.natAbs≤x.natAbs:=by
  have:=mK (a:=(x.natAbs:Int)) (b:=(y.natAbs:Int));omega
 refine vs _ rfl ?_ ?_<;>intro h13
 ·apply aA (gV x.natAbs y.natAbs (x.natAbs-y.natAbs) (-1) (.inr rfl)) rfl
  apply aA (dR x.sign (x+y) _ (eY _) (by rw [dF];omega) (fun hne=>by
   rw [dF] at hne;rcases hx0 with ⟨h,e⟩ | ⟨h,e⟩ | ⟨h,e⟩
   ·rw [e];exact Int.sign_eq_neg_one_of_neg (by omega)
   ·omega
   ·rw [e];exact Int.sign_eq_one_of_pos (by omega)) (by have:=hl (x.natAbs-y.natAbs) (by omega);omega)) rfl
  exact aE rfl
 apply aA (gV y.natAbs x.natAbs (y.natAbs-x.natAbs) (-1) (.inr rfl)) rfl
 apply aA (dR y.sign (x+y) _ (eY _) (by rw [dF];omega) (fun hne=>by
  rw [dF] at hne;rcases hy0 with ⟨h,e⟩ | ⟨h,e⟩ | ⟨h,e⟩
  ·rw [e];exact Int.sign_eq_neg_one_of_neg (by omega)
  ·omega
  ·rw [e];exact Int.sign_eq_one_of_pos (by omega)) (by have:=hl (y.natAbs-x.natAbs) (by omega);omega)) rfl
 exact aE rfl
theorem uP (x y:Int) (hx:(bd x.natAbs).length<137438953472:=by omega) (hy:(bd y.natAbs).length<137438953472:=by omega):aJ prog 62 [(zT x:aD),(zT y:aD)] (.ret [zT (x-y)]):=by
 refine bO func62 Oj ?_;apply aA (vB y) rfl;apply aA (tX x (-y) hx (by rw [Int.natAbs_neg];exact hy)) rfl;rw [←Int.sub_eq_add_neg];exact aE rfl
theorem My (x y:Int):(x-y).sign=cR x y:=by
 unfold cR;rcases bD (x-y) with ⟨h,e⟩ | ⟨h,e⟩ | ⟨h,e⟩<;>rw [e]
 ·rw [if_pos (by omega)]
 ·rw [if_neg (by omega),if_neg (by omega)]
 ·rw [if_neg (by omega),if_pos (by omega)]
theorem pN (x y:Int) (hx:(bd x.natAbs).length<137438953472:=by omega) (hy:(bd y.natAbs).length<137438953472:=by omega):aJ prog 60 [(zT x:aD),(zT y:aD)] (.ret [.one (.int .i64 (cR x y))]):=by
 refine bO func60 OX ?_;apply aA (uP x y hx hy) rfl;dsimp only [aG,aH];rw [←My];exact aE rfl
theorem GY {n la i:Nat} (h:la=(bd n).length) (hi:i<la:=by omega):∃ d,(bd n)[la-1-i]? = some d∧(bd n).reverse[i]? = some d∧d<32768:=by
 subst h;have hd:(bd n).reverse[i]? = some ((bd n).reverse[i]'(by rw [List.length_reverse];exact hi)):=dJ _;exact ⟨_,by rw [uF hi];exact hd,hd,(eY n).rev.get hd⟩
set_option maxHeartbeats 2000000 in
theorem eG (x y:Int) (hs:(bd x.natAbs).length+(bd y.natAbs).length<274877906944:=by omega):aJ prog 54 [(zT x:aD),(zT y:aD)] (.ret [zT (x*y)]):=by
 refine bO func54 ND ?_;obtain ⟨la,hla⟩:∃ n,(bd x.natAbs).length=n:=⟨_,rfl⟩
 obtain ⟨lb,hlb⟩:∃ n,(bd y.natAbs).length=n:=⟨_,rfl⟩
 have hra:(bd x.natAbs).reverse.length=la:=by rw [List.length_reverse,hla]
 have hrb:(bd y.natAbs).reverse.length=lb:=by rw [List.length_reverse,hlb]
 have hsx:=uK x;have hsy:=uK y;apply vn (bB dM (bF _)) rfl;apply vn (bB dM (bF _)) rfl;apply vn (aF) rfl;dsimp only [aG,aH];rw [hla,hlb];refine vF (n:=la+lb) (f:=fun d:Nat=>[aL.int .i64 (d:Int)]) 0 rfl rfl (by omega) rfl (by omega) (by simp only [maxLen];omega) ?_;apply vn (bB dM (bF _)) rfl;apply vn (aR) rfl;dsimp only [aG,aH];rw [hla];refine bE {g:Nat×List Nat // yF 32768 (bd x.natAbs).reverse (bd y.natAbs).reverse g.1 g.2} (fun g=>[.one (.int .i64 ((la:Int)-1-g.1.1)), .rows (rB g.1.2.reverse)]) (fun g=>la-g.1.1) ⟨(0,List.replicate (la+lb) 0),by have:=yF.init (B:=32768) (by omega) (bd x.natAbs).reverse (bd y.natAbs).reverse;rw [hra,hrb] at this;exact this⟩ ⟨aD.Sub.of_eq (congrArg (fun q=>aD.one (aL.int .i64 q)) (by show (la:Int)-1=(la:Int)-1-((0:Nat):Int);omega)),aD.Sub.of_eq (by rw [List.reverse_replicate];rfl),trivial⟩ (fun _=>rfl) ?_;rintro ⟨⟨i,os⟩,hO⟩;dsimp only [aG,aH] at hO ⊢;have hil:=hO.le;rw [hra] at hil;apply vn iC rfl;refine vs _ rfl ?_ ?_<;>intro h8
 ·apply vn (bB dM (bF _)) rfl;obtain ⟨d,hd1,hd2,hd3⟩:=GY (n:=x.natAbs) (la:=la) (i:=i) hla.symm;dsimp only [aG,aH];apply vn (aR) rfl;dsimp only [aG,aH];rw [hlb];refine bE {g:Nat×Nat×List Nat // SK 32768 (bd x.natAbs).reverse (bd y.natAbs).reverse i d (val 32768 ((bd x.natAbs).reverse.take i)*val 32768 (bd y.natAbs).reverse) g.1 g.2.1 g.2.2} (fun g=>[.one (.int .i64 g.1.2.1), .one (.int .i64 ((lb:Int)-1-g.1.1)), .rows (rB g.1.2.2.reverse)]) (fun g=>lb-g.1.1) ⟨(0,0,os),hO.ZK (by omega)⟩ ⟨aD.Sub.same,aD.Sub.of_eq (congrArg (fun q=>aD.one (aL.int .i64 q)) (by show (lb:Int)-1=(lb:Int)-1-((0:Nat):Int);omega)),aD.Sub.same,trivial⟩ (fun _=>rfl) ?_;rintro ⟨⟨k,c,os2⟩,hI⟩;dsimp only [aG,aH] at hI ⊢;have hkl:=hI.le;have hol:=hI.len;have hc1:=hI.c1;rw [hrb] at hkl;rw [hra,hrb] at hol;apply vn iC rfl;refine vs _ rfl ?_ ?_<;>intro h13
  ·apply vn (aF) rfl;apply vn (aF) rfl;dsimp only [aG,aH];obtain ⟨e,he1,he2,he3⟩:=GY (n:=y.natAbs) (la:=lb) (i:=k) hlb.symm;obtain ⟨o,ho2⟩:∃ o,os2[i+k]? = some o:=⟨_,dJ (by omega)⟩
   have ho1:os2.reverse[la+lb-1-(i+k)]? = some o:=by
    have:=uF (ds:=os2.reverse) (i:=i+k) (by rw [List.length_reverse];omega);rw [List.reverse_reverse,List.length_reverse,hol] at this;rw [this];exact ho2
   have hoB:=hI.dg.get ho2;have hde:d*e≤32767*32767:=Nat.mul_le_mul (by omega) (by omega);have hst:∀ z,os2.reverse.set (la+lb-1-(i+k)) z=(os2.set (i+k) z).reverse:=fun z=>by rw [←hol];exact Cb (by omega)
   obtain ⟨w,hw⟩:∃ w,c+(d*e+o)=w:=⟨_,rfl⟩
   have hN:=hI.next (z:=w%32768) (c':=w/32768) (by rw [hrb];omega) he2 ho2 (by omega) (by omega) (by omega);refine cO rfl rfl (by omega) (by rw [List.length_reverse];omega) ?_;refine lU rfl rfl (by omega) (by omega) ho1 rfl ?_;apply vn (dC dM hd1) rfl;apply vn (cL Iy) rfl;apply vn (dC dM he1) rfl;dsimp only [aG,aH];apply vn (cL Iy) rfl;apply vn (oJ (c:=((d*e:Nat):Int)) (by rw [←Int.natCast_mul];exact dD)) rfl;apply vn (aF) rfl;dsimp only [aG,aH];apply vn (dL (c:=(w:Int)) (by rw [show (o:Int)+((d*e:Nat):Int)+(c:Int)=(w:Int) by omega];exact dD)) rfl;apply vn (aF) rfl;apply vn (aF) rfl;apply vn (cK) rfl;dsimp only [aG,aH];refine cO rfl rfl (by omega) (by rw [List.length_reverse];omega) ?_;refine kF (d':=w%32768) rfl rfl (by omega) (by omega) ho1 rfl ?_;rw [hst];apply vn (iR) rfl;apply vn (aR) rfl;dsimp only [aG,aH];exact aZ rfl ⟨⟨(k+1,w/32768,os2.set (i+k) (w%32768)),hN⟩,⟨aD.Sub.same,aD.Sub.of_eq (congrArg (fun q=>aD.one (aL.int .i64 q)) (by show (lb:Int)-1-(k:Int)-1=(lb:Int)-1-((k+1:Nat):Int);omega)),aD.Sub.same,trivial⟩,by show lb-(k+1)<lb-k;omega⟩
  have hke:k=lb:=by omega
  subst hke;obtain ⟨o,ho2⟩:∃ o,os2[i+k]? = some o:=⟨_,dJ (by omega)⟩
  have ho1:os2.reverse[la+k-1-(i+k)]? = some o:=by
   have:=uF (ds:=os2.reverse) (i:=i+k) (by rw [List.length_reverse];omega);rw [List.reverse_reverse,List.length_reverse,hol] at this;rw [this];exact ho2
  have hst:∀ z,os2.reverse.set (la+k-1-(i+k)) z=(os2.set (i+k) z).reverse:=fun z=>by rw [←hol];exact Cb (by omega)
  have hN:yF 32768 (bd x.natAbs).reverse (bd y.natAbs).reverse (i+1) (os2.set (i+k) c):=by
   have:=hI;rw [←hrb] at this ⊢;exact this.out hd2
  refine cO rfl rfl (by omega) (by rw [List.length_reverse];omega) ?_;refine kF (d':=c) rfl rfl (by omega) (by omega) ho1 rfl ?_;rw [hst];apply vn (aR) rfl;dsimp only [aG,aH];exact aZ rfl ⟨⟨(i+1,os2.set (i+k) c),hN⟩,⟨aD.Sub.of_eq (congrArg (fun q=>aD.one (aL.int .i64 q)) (by show (la:Int)-1-(i:Int)-1=(la:Int)-1-((i+1:Nat):Int);omega)),aD.Sub.same,trivial⟩,by show la-(i+1)<la-i;omega⟩
 have hie:i=la:=by omega
 subst hie
 have hf:val 32768 os=x.natAbs*y.natAbs:=by
  have:=hO;rw [←hra] at this;have:=this.fin;rw [val_rev,val_rev] at this;exact this
 have hol:=hO.len;rw [hra,hrb] at hol;have hmul:x.sign*y.sign=(x*y).sign:=(Int.sign_mul x y).symm;have hsb:=uK (x*y);apply vn (oJ (c:=(x*y).sign) (by rw [hmul];exact dD)) rfl;apply aA (dR (x*y).sign (x*y) os.reverse hO.dg.rev (by rw [bv,List.reverse_reverse,hf,Int.natAbs_mul]) (fun _=>rfl) (by rw [List.length_reverse];omega)) rfl;exact aE rfl
open Go Go.Proofs Tryz Ord
def Qb:Tr:=.back 0 [lV 10 0,lV 11 0]
def VB:Tr:=.split (.u 5 0) (aN .mul 3 14 32768 3 0 3 (aN .sub 3 17 1 1 0 3 (cC .sub 3 18 19 7 0 4 0 3 (aC 160 [(W 0 0),(W 8 0)] [none] [16,20] [31,3] 3 true (cC .add 3 15 21 6 0 9 0 3 (aN .add 3 12 1 4 0 3 Qb)))))) (.ret [(W 3 0)])
def Ye:Tr:=.loop 0 [lK 0,lK 0] (cC .lss 3 9 10 4 0 2 0 4 VB)
theorem Mv:aI prog f190 (fun _=>none) [.v none, .v none, .v none]=Ye:=by kernel_rfl
def TB:Tr:=.loop 0 [lV 14 0,lV 10 0] (aC 116 [(W 15 0),(W 1 0)] [none] [46,47] [31,31] 3 true (aN .geq 3 48 0 17 0 4 (.split (.u 18 0) (.need (.call 115 [(W 15 0),(W 1 0),(WK (-1))] [none]) (.call ⟨.value (.func 115),#[(tT 50),(tT 51),(.const (I3 (-1)))],#[31,31,3]⟩) 31 true (aN .add 3 53 1 16 0 3 (.back 0 [lV 19 0,lV 20 0]))) (.ret [(W 16 0),(W 15 0)]))))
def Rb:Tr:=.loop 0 [lV 0 0,lV 10 0] (aC 116 [(W 12 0),(W 1 0)] [none] [46,47] [31,31] 3 true (aN .geq 3 48 0 14 0 4 (.split (.u 15 0) (.need (.call 115 [(W 12 0),(W 1 0),(WK (-1))] [none]) (.call ⟨.value (.func 115),#[(tT 50),(tT 51),(.const (I3 (-1)))],#[31,31,3]⟩) 31 true (aN .add 3 53 1 13 0 3 (.back 0 [lV 16 0,lV 17 0]))) (.ret [(W 13 0),(W 12 0)]))))
def Md:Tr:=aN .gtr 3 36 0 10 0 4 (.split (.u 11 0) (aC 59 [(W 10 0)] [(some 2)] [39] [2] 33 false (aC 54 [(G2 12),(.agg [(tE (.int .i64 1)),(U 1 0)])] [(some 2)] [40,42] [33,33] 33 true (.need (.call 115 [(W 0 0),(W 13 1),(WK (-1))] [none]) (.call ⟨.value (.func 115),#[(tT 38),(tT 44),(.const (I3 (-1)))],#[31,31,3]⟩) 31 true TB))) Rb)
def XE:Tr:=aN .leq 3 14 3 2 0 4 (.split (.u 5 0) (aN .add 3 17 1 2 0 3 (aN .add 3 19 1 2 0 3 (aC 190 [(W 0 0),(W 6 0),(W 7 0)] [none] [16,18,20] [31,3,3] 3 false (aC 190 [(W 1 0),(W 2 0),(W 2 0)] [none] [22,23,24] [31,3,3] 3 true (cC .quo 3 21 25 8 0 9 0 3 Md))))) (aN .add 3 28 1 2 0 3 (.need (.call 190 [(W 0 0),(W 6 0),(WK 4)] [none]) (.call ⟨.value (.func 190),#[(tT 27),(tT 29),(.const (I3 4))],#[31,3,3]⟩) 3 false (.need (.call 190 [(W 1 0),(W 2 0),(WK 3)] [none]) (.call ⟨.value (.func 190),#[(tT 31),(tT 32),(.const (I3 3))],#[31,3,3]⟩) 3 false (aN .add 3 33 1 8 0 3 (cC .quo 3 30 34 7 0 9 0 3 Md))))))
def Sl:Tr:=.loop 0 [lV 8 0,lK 0] (aC 116 [(W 9 0),(W 1 0)] [none] [46,47] [31,31] 3 true (aN .geq 3 48 0 11 0 4 (.split (.u 12 0) (.need (.call 115 [(W 9 0),(W 1 0),(WK (-1))] [none]) (.call ⟨.value (.func 115),#[(tT 50),(tT 51),(.const (I3 (-1)))],#[31,31,3]⟩) 31 true (aN .add 3 53 1 10 0 3 (.back 0 [lV 13 0,lV 14 0]))) (.ret [(W 10 0),(W 9 0)]))))
def Rm:Tr:=.split (.u 5 0) (aC 59 [(WK 0)] [(some 2)] [39] [2] 33 false (aC 54 [(G2 6),(.agg [(tE (.int .i64 1)),(U 1 0)])] [(some 2)] [40,42] [33,33] 33 true (.need (.call 115 [(W 0 0),(W 7 1),(WK (-1))] [none]) (.call ⟨.value (.func 115),#[(tT 38),(tT 44),(.const (I3 (-1)))],#[31,31,3]⟩) 31 true Sl))) (.loop 0 [lV 0 0,lK 0] (aC 116 [(W 6 0),(W 1 0)] [none] [46,47] [31,31] 3 true (aN .geq 3 48 0 8 0 4 (.split (.u 9 0) (.need (.call 115 [(W 6 0),(W 1 0),(WK (-1))] [none]) (.call ⟨.value (.func 115),#[(tT 50),(tT 51),(.const (I3 (-1)))],#[31,31,3]⟩) 31 true (aN .add 3 53 1 7 0 3 Qb)) (.ret [(W 7 0),(W 6 0)])))))
def Yk:Tr:=eU 1 0 8 31 (eU 0 0 10 31 (cC .geq 3 11 12 3 0 2 0 4 (.split (.u 4 0) XE (.need (.prim [(WK 0),(WK 0)] none) (.binOp .gtr 3 (tT 36) (.const (I3 0)) 3) 4 false Rm))))
theorem JC:aI prog f158 (fun _=>none) [.v none, .v none]=Yk:=by kernel_rfl
def Ss:Tr:=.need (.app 1 8 (some 17) none (some 20)) (.call ⟨.builtin .append,#[(tT 33),(tT 38)],#[31,31]⟩) 31 false (aC 157 [(.one (.c (.sr 1 21)))] [none] [39] [31] 31 true (aC 158 [(W 22 0),(W 1 0)] [none,none] [42,43] [31,31] 184 false (.need (.lit 1 [[(.u 23 0)]]) (.buildSlice 31 1 #[(0,(tT 48))]) 31 false (.need (.app 1 8 (some 14) none (some 25)) (.call ⟨.builtin .append,#[(tT 47),(tT 49)],#[31,31]⟩) 31 false (aN .add 3 30 1 13 0 3 (.back 0 [lV 24 0,lV 27 0, .row 26]))))))
def QY:Tr:=eU 0 0 27 31 (cC .lss 3 26 28 13 0 15 0 4 (.split (.u 16 0) (.need (.app 1 8 none (some (.u 12 0)) none) (.call ⟨.builtin .append,#[(.const (.slice none 0 0)),(tT 32)],#[31,31]⟩) 31 false (sF 0 0 13 0 31 34 35 (oO 18 0 none 3 36 (.need (.lit 1 [[(.u 19 0)]]) (.buildSlice 31 1 #[(0,(tT 37))]) 31 false Ss)))) (aC 157 [(.one (.c (.sr 1 14)))] [none] [51] [31] 31 false (.ret [(W 17 0),(W 12 0)]))))
def WU:Tr:=aN .sub 3 18 1 5 0 3 (.need (.prim [(W 0 0),(W 6 0)] none) (.slice 31 (tT 16) none (some (tT 19)) none) 31 false (.need (.app 1 8 none (some (.u 7 0)) none) (.call ⟨.builtin .append,#[(.const (.slice none 0 0)),(tT 20)],#[31,31]⟩) 31 false (aC 157 [(.one (.c (.sr 1 8)))] [none] [21] [31] 31 true (eU 1 0 23 31 (aN .sub 3 24 1 10 0 3 (.loop 0 [lV 9 0,lV 11 0, .nilrow] QY))))))
def Wr:Tr:=eU 0 0 10 31 (eU 1 0 12 31 (cC .lss 3 11 13 2 0 3 0 4 (.split (.u 4 0) (.ret [(.one (.c (.k (.slice none 0 0)))),(W 0 0)]) (eU 1 0 17 31 WU))))
theorem Pb:aI prog f111 (fun _=>none) [.v none, .v none]=Wr:=by kernel_rfl
def Kc:Tr:=.ret [(G2 4),(G2 5)]
def Vc:Tr:=.split (.u 6 0) (aN .neq 3 29 0 5 0 4 (.split (.u 7 0) (.need (.call 59 [(WK 1)] [(some 2)]) (.call ⟨.value (.func 59),#[(.const (I3 1))],#[2]⟩) 33 false (aC 62 [(G2 4),(G2 8)] [(some 2)] [32,33] [33,33] 33 false (aC 62 [(G2 1),(G2 5)] [(some 2)] [35,36] [33,33] 33 true (.ret [(G2 9),(G2 10)])))) Kc)) Kc
def XF:Tr:=aC 111 [(W 0 1),(W 1 1)] [none,none] [12,14] [31,31] 143 false (aC 114 [(W 0 0),(W 2 0)] [(some 2)] [19,20] [3,31] 33 false (.need (.call 114 [(WK 1),(W 3 0)] [(some 2)]) (.call ⟨.value (.func 114),#[(.const (I3 1)),(tT 22)],#[3,31]⟩) 33 true (aN .lss 3 25 0 0 0 4 Vc)))
theorem Hs:aI prog f58 (fun _=>none) [.v (some 2), .v (some 2)]=XF:=by kernel_rfl
def Vs:Tr:=.split (.u 4 0) (aN .mul 3 11 32768 1 0 3 (sF 0 0 2 0 31 13 14 (oO 6 0 none 3 15 (cC .add 3 12 16 5 0 7 0 3 (aN .add 3 9 1 2 0 3 (.back 0 [lV 8 0,lV 9 0])))))) Fk
def WE:Tr:=.loop 0 [lK 0,lK 0] (eU 0 0 6 31 (cC .lss 3 5 7 2 0 3 0 4 Vs))
theorem IA:aI prog f112 (fun _=>none) [.v none]=WE:=by kernel_rfl
def Tp:Tr:=aC 112 [(W 2 0)] [none] [26] [31] 3 false (aC 112 [(W 3 0)] [none] [28] [31] 3 true (.loop 1 [lV 12 0,lV 13 0] (aN .neq 3 30 0 15 0 4 (.split (.u 16 0) (cC .rem 3 33 34 14 0 15 0 3 (.back 1 [lV 15 0,lV 17 0])) (aC 59 [(W 14 0)] [(some 2)] [36] [2] 33 true (.ret [(G2 17)]))))))
def XR:Tr:=aN .leq 3 19 4 8 0 4 (.split (.u 9 0) (eU 3 0 22 31 (aN .leq 3 23 4 10 0 4 (.split (.u 11 0) Tp (aC 111 [(W 2 0),(W 3 0)] [none,none] [39,40] [31,31] 143 false (.back 0 [lV 3 0,lV 13 0,lV 4 0,lV 5 0]))))) (aC 111 [(W 2 0),(W 3 0)] [none,none] [39,40] [31,31] 143 false (.back 0 [lV 3 0,lV 11 0,lV 4 0,lV 5 0])))
def UW:Tr:=.loop 0 [lV 0 1,lV 1 1,lK 0,lN] (eU 3 0 15 31 (aN .gtr 3 16 0 6 0 4 (.split (.u 7 0) (eU 2 0 18 31 XR) (.need (.call 114 [(WK 1),(W 2 0)] [(some 2)]) (.call ⟨.value (.func 114),#[(.const (I3 1)),(tT 46)],#[3,31]⟩) 33 true Fa))))
theorem NI:aI prog f140 (fun _=>none) [.v (some 2), .v (some 2)]=UW:=by kernel_rfl
theorem Ey {m long i:Nat} (h:i<long:=by omega):m/32768^(long-i)*32768+m/32768^(long-1-i)%32768=m/32768^(long-(i+1)):=by
 have e:m/32768^(long-i)=m/32768^(long-(i+1))/32768:=by
  rw [Nat.div_div_eq_div_mul,←Nat.pow_succ];congr 2;omega
 rw [e,show long-1-i=long-(i+1) by omega];have:=Nat.div_add_mod (m/32768^(long-(i+1))) 32768;omega
theorem pS {m long i:Nat} (h:i≤long) (hm:m<32768^long):m/32768^(long-i)<32768^i:=by
 rw [Nat.div_lt_iff_lt_mul (Nat.pow_pos (by omega)),←Nat.pow_add,show i+(long-i)=long by omega];exact hm
theorem FB {i:Nat} (h:i≤4:=by omega):32768^i≤1152921504606846976:=by
 have:=Nat.pow_le_pow_right (n:=32768) (by omega) h;rw [show (32768:Nat)^4=1152921504606846976 by decide] at this;exact this
theorem qG (m long k:Nat) (hm:m<32768^long) (hk:k≤long:=by omega) (hk4:k≤4:=by omega) (hl:long<1099511627776:=by omega) (hs:(bd m).length<1099511627776:=by omega):aJ prog 190 [(.one (bT m):aD),(.one (.int .i64 long):aD),(.one (.int .i64 k):aD)] (.ret [.one (.int .i64 ((m/32768^(long-k):Nat):Int))]):=by
 refine bO func190 Mv ?_;refine bE {i:Nat // i≤k} (fun g=>[.one (.int .i64 ((m/32768^(long-g.1):Nat):Int)), .one (.int .i64 g.1)]) (fun g=>k-g.1) ⟨0,fK _⟩ ⟨aD.Sub.of_eq (congrArg (fun q:Nat=>aD.one (aL.int .i64 (q:Int))) (by show 0=m/32768^long;rw [Nat.div_eq_of_lt hm])),aD.Sub.same,trivial⟩ (fun _=>rfl) ?_;rintro ⟨i,hi⟩;dsimp only [aG,aH] at hi ⊢;apply vn bA rfl;refine vs _ rfl ?_ ?_<;>intro h2
 ·have hx:=pS (m:=m) (i:=i) (long:=long) (by omega) hm;have hp:=FB (i:=i);have hstep:=Ey (m:=m) (long:=long) (i:=i);have hlt:=pS (m:=m) (i:=i+1) (long:=long) (by omega) hm;have hp2:=FB (i:=i+1);generalize m/32768^(long-i)=x at *;generalize hy:m/32768^(long-(i+1))=y at *;apply vn (gS) rfl;apply vn (aR) rfl;dsimp only [aG,aH];apply vn (jX (c:=((long-1-i:Nat):Int)) (by rw [show ((long:Int)-1-(i:Int))=((long-1-i:Nat):Int) by omega];exact dD)) rfl;apply aA (vH m (long-1-i) hs) rfl;generalize m/32768^(long-1-i)%32768=d at *;dsimp only [aG,aH];apply vn (dL (c:=(y:Int)) (by rw [show (x:Int)*32768+(d:Int)=(y:Int) by omega];exact dD)) rfl;apply vn (aF) rfl;dsimp only [aG,aH];exact aZ rfl ⟨⟨i+1,by omega⟩,⟨aD.Sub.of_eq (congrArg (fun q:Nat=>aD.one (aL.int .i64 (q:Int))) hy.symm),aD.Sub.same,trivial⟩,by show k-(i+1)<k-i;omega⟩
 rw [show k=i by omega];exact aE rfl
theorem Fi {d:Nat} (h:0<d):zT (d:Int) = .agg [.int .i64 1,bT d]:=by
 rw [zT,zC,Int.sign_eq_one_of_pos (by omega)];rfl
theorem LA {r d m:Nat}:r/32768^m/(d/32768^m+1)*d≤r:=by
 have hp:0<32768^m:=Nat.pow_pos (by omega)
 have h1:d≤(d/32768^m+1)*32768^m:=by
  rw [Nat.mul_comm];exact Nat.le_of_lt (Nat.lt_mul_div_succ d hp)
 calc r/32768^m/(d/32768^m+1)*d≤r/32768^m/(d/32768^m+1)*((d/32768^m+1)*32768^m):=Nat.mul_le_mul_left _ h1
  _=r/32768^m/(d/32768^m+1)*(d/32768^m+1)*32768^m:=(Nat.mul_assoc _ _ _).symm
  _≤r/32768^m*32768^m:=Nat.mul_le_mul_right _ (Nat.div_mul_le_self _ _)
  _≤r:=Nat.div_mul_le_self _ _
set_option maxHeartbeats 2000000 in
theorem Mn (r d:Nat) (hd:0<d) (hr:r<d*32768) (hs:(bd d).length<34359738368:=by omega):aJ prog 158 [(.one (bT r):aD),(.one (bT d):aD)] (.ret [.one (.int .i64 ((r/d:Nat):Int)), .one (bT (r%d))]):=by
 refine bO func158 JC ?_;have hdl:=wD d
 have hrl:r<32768^((bd d).length+1):=by
  rw [Nat.pow_succ];exact Nat.lt_trans hr (Nat.mul_lt_mul_of_pos_right hdl (by omega))
 have hrs:=gC hrl;have hle:∀ q,q≤r→(bd q).length≤(bd d).length+1:=fun q hq=>Nat.le_trans (cQ hq) hrs
 have hdn:0<(bd d).length:=by
  rcases Nat.eq_zero_or_pos (bd d).length with h | h
  ·have:=wO.1 (List.eq_nil_of_length_eq_zero h);omega
  ·exact h
 have hqB:r/d<32768:=by rw [Nat.div_lt_iff_lt_mul hd,Nat.mul_comm];exact hr
 have hkd:∀ k,k*d≤r→k<32768:=fun k hk=>by
  have:k≤r/d:=by rw [Nat.le_div_iff_mul_le hd];exact hk
  omega
 have hfin:∀ r' k,r'+k*d=r→r'<d→k=r/d∧r'=r%d:=fun r' k h1 h2=>rW (by rw [←h1,Nat.mul_comm]) h2
 have hah:∀ r':Nat,(0≤cR (r':Int) (d:Int))↔d≤r':=fun r'=>by
  have:=mK (a:=(r':Int)) (b:=(d:Int));omega
 apply vn (bB dM (bF _)) rfl;apply vn (bB dM (bF _)) rfl;apply vn iC rfl;refine vs _ rfl ?_ ?_<;>intro h3
 ·apply vn jK rfl;dsimp only [aG,aH];refine vs _ rfl ?_ ?_<;>intro h5
  ·apply vn (aF) rfl;apply vn (aF) rfl;apply aA (qG r ((bd d).length+1) ((bd d).length+1) hrl (bQ _)) rfl;rw [Nat.sub_self,Nat.pow_zero,Nat.div_one];apply aA (qG d (bd d).length (bd d).length hdl (bQ _)) rfl;rw [Nat.sub_self,Nat.pow_zero,Nat.div_one];dsimp only [aG,aH];obtain ⟨k,hk⟩:∃ k,r/d=k:=⟨_,rfl⟩
   have hk1:k*d≤r:=by rw [←hk];exact Nat.div_mul_le_self _ _
   have hk2:=hkd k hk1;apply vn (kV (c:=(k:Int)) (by omega) (by rw [Int.tdiv_eq_ediv_of_nonneg (jY _),←Int.natCast_ediv,hk];exact dD)) rfl;apply vn bC rfl;refine vs _ rfl ?_ ?_<;>intro h12
   ·have hm:=eG (k:Int) (d:Int) (by
     rw [Int.natAbs_natCast,Int.natAbs_natCast];have:(bd k).length≤1:=gC (by omega);omega)
    rw [Fi hd,show (k:Int)*(d:Int)=((k*d:Nat):Int) by rw [Int.natCast_mul]] at hm;apply aA (dI k) rfl;apply aA hm rfl;dsimp only [aG,aH];apply aA (gV r (k*d) (r-k*d) (-1) (.inr rfl) (by have:=hle _ hk1;omega)) rfl;dsimp only [aG,aH];refine bE {g:Nat×Nat // g.1+g.2*d=r} (fun g=>[.one (bT g.1.1), .one (.int .i64 g.1.2)]) (fun g=>g.1.1) ⟨(r-k*d,k),by show r-k*d+k*d=r;omega⟩ aM.rfl (fun _=>rfl) ?_;rintro ⟨⟨r',k'⟩,hg⟩;dsimp only [aG,aH] at hg ⊢;have hk3:=hkd k' (by omega);have hr3:=hle r' (by omega);apply aA (kS r' d) rfl;apply vn iC rfl;refine vs _ rfl ?_ ?_<;>intro h19
    ·have hdr:d≤r':=(hah r').1 (by assumption);apply aA (gV r' d (r'-d) (-1) (.inr rfl)) rfl;apply vn (aF) rfl;dsimp only [aG,aH];exact aZ rfl ⟨⟨(r'-d,k'+1),by show r'-d+(k'+1)*d=r;rw [Nat.add_mul];omega⟩,aM.rfl,by show r'-d<r';omega⟩
    have hdr:r'<d:=by
     rcases Nat.lt_or_ge r' d with h | h
     ·exact h
     ·exact absurd ((hah r').2 h) (by assumption)
    obtain ⟨e1,e2⟩:=hfin r' k' hg hdr;rw [←e1,←e2];exact aE rfl
   refine bE {g:Nat×Nat // g.1+g.2*d=r} (fun g=>[.one (bT g.1.1), .one (.int .i64 g.1.2)]) (fun g=>g.1.1) ⟨(r,0),by omega⟩ ⟨aD.Sub.same,aD.Sub.of_eq (congrArg (fun q:Nat=>aD.one (aL.int .i64 (q:Int))) (by show k=0;omega)),trivial⟩ (fun _=>rfl) ?_;rintro ⟨⟨r',k'⟩,hg⟩;dsimp only [aG,aH] at hg ⊢;have hk3:=hkd k' (by omega);have hr3:=hle r' (by omega);apply aA (kS r' d) rfl;apply vn iC rfl;refine vs _ rfl ?_ ?_<;>intro h27
   ·have hdr:d≤r':=(hah r').1 (by assumption);apply aA (gV r' d (r'-d) (-1) (.inr rfl)) rfl;apply vn (aF) rfl;dsimp only [aG,aH];exact aZ rfl ⟨⟨(r'-d,k'+1),by show r'-d+(k'+1)*d=r;rw [Nat.add_mul];omega⟩,aM.rfl,by show r'-d<r';omega⟩
   have hdr:r'<d:=by
    rcases Nat.lt_or_ge r' d with h | h
    ·exact h
    ·exact absurd ((hah r').2 h) (by assumption)
   obtain ⟨e1,e2⟩:=hfin r' k' hg hdr;rw [←e1,←e2];exact aE rfl
  apply vn (aF) rfl;apply aA (qG r ((bd d).length+1) 4 hrl) rfl;apply aA (qG d (bd d).length 3 hdl) rfl;rw [show (bd d).length+1-4=(bd d).length-3 by omega];have hd3:=pS (m:=d) (long:=(bd d).length) (i:=3) (by omega) hdl;have hr4:=pS (m:=r) (long:=(bd d).length+1) (i:=4) (by omega) hrl;rw [show (bd d).length+1-4=(bd d).length-3 by omega] at hr4;have hp3:=FB (i:=3);have hp4:=FB (i:=4);have hk1:=LA (r:=r) (d:=d) (m:=(bd d).length-3);generalize r/32768^((bd d).length-3)=rt at *;generalize d/32768^((bd d).length-3)=dt at *;obtain ⟨k,hk⟩:∃ k,rt/(dt+1)=k:=⟨_,rfl⟩
  rw [hk] at hk1;have hk2:=hkd k hk1;apply vn (aF) rfl;dsimp only [aG,aH];apply vn (kV (c:=(k:Int)) (by omega) (by rw [Int.tdiv_eq_ediv_of_nonneg (jY _),show ((dt:Int)+1)=((dt+1:Nat):Int) by omega,←Int.natCast_ediv,hk];exact dD)) rfl;apply vn bC rfl;refine vs _ rfl ?_ ?_<;>intro h38
  ·have hm:=eG (k:Int) (d:Int) (by
    rw [Int.natAbs_natCast,Int.natAbs_natCast];have:(bd k).length≤1:=gC (by omega);omega)
   rw [Fi hd,show (k:Int)*(d:Int)=((k*d:Nat):Int) by rw [Int.natCast_mul]] at hm;apply aA (dI k) rfl;apply aA hm rfl;dsimp only [aG,aH];apply aA (gV r (k*d) (r-k*d) (-1) (.inr rfl) (by have:=hle _ hk1;omega)) rfl;dsimp only [aG,aH];refine bE {g:Nat×Nat // g.1+g.2*d=r} (fun g=>[.one (bT g.1.1), .one (.int .i64 g.1.2)]) (fun g=>g.1.1) ⟨(r-k*d,k),by show r-k*d+k*d=r;omega⟩ aM.rfl (fun _=>rfl) ?_;rintro ⟨⟨r',k'⟩,hg⟩;dsimp only [aG,aH] at hg ⊢;have hk3:=hkd k' (by omega);have hr3:=hle r' (by omega);apply aA (kS r' d) rfl;apply vn iC rfl;refine vs _ rfl ?_ ?_<;>intro h45
   ·have hdr:d≤r':=(hah r').1 (by assumption);apply aA (gV r' d (r'-d) (-1) (.inr rfl)) rfl;apply vn (aF) rfl;dsimp only [aG,aH];exact aZ rfl ⟨⟨(r'-d,k'+1),by show r'-d+(k'+1)*d=r;rw [Nat.add_mul];omega⟩,aM.rfl,by show r'-d<r';omega⟩
   have hdr:r'<d:=by
    rcases Nat.lt_or_ge r' d with h | h
    ·exact h
    ·exact absurd ((hah r').2 h) (by assumption)
   obtain ⟨e1,e2⟩:=hfin r' k' hg hdr;rw [←e1,←e2];exact aE rfl
  refine bE {g:Nat×Nat // g.1+g.2*d=r} (fun g=>[.one (bT g.1.1), .one (.int .i64 g.1.2)]) (fun g=>g.1.1) ⟨(r,0),by omega⟩ ⟨aD.Sub.same,aD.Sub.of_eq (congrArg (fun q:Nat=>aD.one (aL.int .i64 (q:Int))) (by show k=0;omega)),trivial⟩ (fun _=>rfl) ?_;rintro ⟨⟨r',k'⟩,hg⟩;dsimp only [aG,aH] at hg ⊢;have hk3:=hkd k' (by omega);have hr3:=hle r' (by omega);apply aA (kS r' d) rfl;apply vn iC rfl;refine vs _ rfl ?_ ?_<;>intro h53
  ·have hdr:d≤r':=(hah r').1 (by assumption);apply aA (gV r' d (r'-d) (-1) (.inr rfl)) rfl;apply vn (aF) rfl;dsimp only [aG,aH];exact aZ rfl ⟨⟨(r'-d,k'+1),by show r'-d+(k'+1)*d=r;rw [Nat.add_mul];omega⟩,aM.rfl,by show r'-d<r';omega⟩
  have hdr:r'<d:=by
   rcases Nat.lt_or_ge r' d with h | h
   ·exact h
   ·exact absurd ((hah r').2 h) (by assumption)
  obtain ⟨e1,e2⟩:=hfin r' k' hg hdr;rw [←e1,←e2];exact aE rfl
 apply vn bC rfl;refine vs _ rfl ?_ ?_<;>intro h59
 ·exfalso;omega
 refine bE {g:Nat×Nat // g.1+g.2*d=r} (fun g=>[.one (bT g.1.1), .one (.int .i64 g.1.2)]) (fun g=>g.1.1) ⟨(r,0),by omega⟩ aM.rfl (fun _=>rfl) ?_;rintro ⟨⟨r',k'⟩,hg⟩;dsimp only [aG,aH] at hg ⊢;have hk3:=hkd k' (by omega);have hr3:=hle r' (by omega);apply aA (kS r' d) rfl;apply vn iC rfl;refine vs _ rfl ?_ ?_<;>intro h74
 ·have hdr:d≤r':=(hah r').1 (by assumption);apply aA (gV r' d (r'-d) (-1) (.inr rfl)) rfl;apply vn (aF) rfl;dsimp only [aG,aH];exact aZ rfl ⟨⟨(r'-d,k'+1),by show r'-d+(k'+1)*d=r;rw [Nat.add_mul];omega⟩,aM.rfl,by show r'-d<r';omega⟩
 have hdr:r'<d:=by
  rcases Nat.lt_or_ge r' d with h | h
  ·exact h
  ·exact absurd ((hah r').2 h) (by assumption)
 obtain ⟨e1,e2⟩:=hfin r' k' hg hdr;rw [←e1,←e2];exact aE rfl
set_option maxHeartbeats 1000000 in
theorem fU (a d:Nat) (hd:0<d:=by omega) (hs:(bd a).length+(bd d).length<34359738368:=by omega):aJ prog 111 [(.one (bT a):aD),(.one (bT d):aD)] (.ret [.one (bT (a/d)), .one (bT (a%d))]):=by
 refine bO func111 Pb ?_
 have hdn:0<(bd d).length:=by
  rcases Nat.eq_zero_or_pos (bd d).length with h | h
  ·have:=wO.1 (List.eq_nil_of_length_eq_zero h);omega
  ·exact h
 apply vn (bB dM (bF _)) rfl;apply vn (bB dM (bF _)) rfl;apply vn bA rfl;refine vs _ rfl ?_ ?_<;>intro h3
 ·have had:=oW (a:=a) (b:=d);refine nJ ⟨MG (Nat.div_eq_of_lt had),?_,trivial⟩;rw [Nat.mod_eq_of_lt had];exact aL.Sub.same
 apply vn (bB dM (bF _)) rfl;dsimp only [aG,aH];apply vn (aR) rfl;apply vn (Pg (m:=(bd d).length-1)) rfl;refine yO (ts:=[]) (us:=rB ((bd a).take ((bd d).length-1))) (vs:=rB ((bd a).take ((bd d).length-1))) rfl (.inr aL.Sub.same) rfl (by simp;omega) (by simp [maxLen];omega) ?_;apply aA (mU ((bd a).take ((bd d).length-1)) ((eY a).take _) (by rw [List.length_take];omega)) rfl;dsimp only [aG,aH];apply vn (bB dM (bF _)) rfl;apply vn (aR) rfl;dsimp only [aG,aH]
 refine bE {g:Nat×Nat×List Nat // (bd d).length-1≤g.1∧g.1≤(bd a).length∧bv ((bd a).take g.1)=g.2.1+d*bv g.2.2∧g.2.1<d∧DB 32768 g.2.2∧g.2.2.length≤g.1} (fun g=>[.one (bT g.1.2.1), .one (.int .i64 g.1.1), .rows (rB g.1.2.2)]) (fun g=>(bd a).length-g.1.1) ⟨((bd d).length-1,bv ((bd a).take ((bd d).length-1)),[]),bQ _,by show (bd d).length-1≤_;omega,by simp [bv,val],by
  have h1:=Ev ((eY a).take ((bd d).length-1));rw [List.length_take,Nat.min_eq_left (by omega)] at h1;exact Nat.lt_of_lt_of_le h1 (XO (by omega)),Js,fK _⟩ ⟨aD.Sub.same,aD.Sub.of_eq (congrArg (fun q=>aD.one (aL.int .i64 q)) (by show ((bd d).length:Int)-1=(((bd d).length-1:Nat):Int);omega)),aD.Sub.same,trivial⟩ (fun _=>rfl) ?_
 rintro ⟨⟨i,R,qs⟩,hi1,hi2,hv,hR,hq,hql⟩;dsimp only [aG,aH] at hi1 hi2 hv hR hq hql ⊢;have hRl:=cQ (Nat.le_of_lt hR);apply vn (bB dM (bF _)) rfl;apply vn bA rfl;refine vs _ rfl ?_ ?_<;>intro h15
 ·obtain ⟨x,hx⟩:∃ x,(bd a)[i]? = some x:=⟨_,dJ (by omega)⟩
  have hxB:=(eY a).get hx;refine yO (ts:=[]) (us:=rB (bd R)) (vs:=rB (bd R)) rfl (.inr aL.Sub.same) rfl (by simp;omega) (by simp [maxLen];omega) ?_;apply vn (dC dM hx) rfl;dsimp only [aG,aH];apply vn (cL Iy) rfl;apply tQ (us:=rB [x]) rfl;refine yO (ts:=rB (bd R)) (us:=rB [x]) (vs:=rB (bd R ++ [x])) rfl rfl (by rw [rB,rB,rB,←List.map_append]) (by simp;omega) (by simp [maxLen];omega) ?_;dsimp only [aG,aH];have hdb:DB 32768 (bd R ++ [x]):=(eY R).append (fun y hy=>by simp at hy;omega);apply aA (mU (bd R ++ [x]) hdb (by simp;omega)) rfl;rw [uX,dF]
  apply aA (Mn (R*32768+x) d hd (by
   have:(R+1)*32768≤d*32768:=Nat.mul_le_mul_right _ hR;omega)) rfl
  have hmd:=Nat.mod_add_div (R*32768+x) d
  have hqB:(R*32768+x)/d<32768:=by
   rw [Nat.div_lt_iff_lt_mul hd,Nat.mul_comm];have:(R+1)*32768≤d*32768:=Nat.mul_le_mul_right _ hR;omega
  have hRm:=Nat.mod_lt (R*32768+x) hd;generalize (R*32768+x)/d=k at *;generalize (R*32768+x)%d=R' at *;apply tQ (us:=rB [k]) rfl;refine yO (ts:=rB qs) (us:=rB [k]) (vs:=rB (qs ++ [k])) rfl rfl (by rw [rB,rB,rB,←List.map_append]) (by simp;omega) (by simp [maxLen];omega) ?_;dsimp only [aG,aH];apply vn (aF) rfl;dsimp only [aG,aH]
  exact aZ rfl ⟨⟨(i+1,R',qs ++ [k]),by show _≤i+1;omega,by show i+1≤_;omega,by
   show bv ((bd a).take (i+1))=R'+d*bv (qs ++ [k]);rw [take_succ hx,uX,uX,hv,Nat.mul_add,Nat.add_mul,←Nat.mul_assoc];omega,hRm,hq.append (fun y hy=>by simp at hy;omega),by show (qs ++ [k]).length≤i+1;simp;omega⟩,aM.rfl,by show (bd a).length-(i+1)<(bd a).length-i;omega⟩
 have hie:i=(bd a).length:=by omega
 subst hie;rw [List.take_length,dF] at hv;obtain ⟨e1,e2⟩:=rW hv hR;apply aA (mU qs hq) rfl;dsimp only [aG,aH];rw [←e1,←e2];exact aE rfl
theorem MP (x:Int) (d:Nat) (hd:0<d):x%(d:Int)=if x<0 then (if x.natAbs%d=0 then 0 else ((d-x.natAbs%d:Nat):Int)) else ((x.natAbs%d:Nat):Int):=by
 have h1:=Int.mul_ediv_add_emod x d;have h2:=nH x d hd;have h3:=Nat.div_add_mod x.natAbs d;have h4:=Nat.mod_lt x.natAbs hd;have e:((x.natAbs:Nat):Int)=(d:Int)*((x.natAbs/d:Nat):Int)+((x.natAbs%d:Nat):Int):=by rw [←Int.natCast_mul];omega
 rw [h2] at h1;generalize x.natAbs/d=q at *;generalize x.natAbs%d=r at *;by_cases h:x<0
 ·rw [if_pos h] at h1 ⊢;by_cases hr:r=0
  ·rw [if_pos hr] at h1 ⊢;rw [Int.mul_neg] at h1;omega
  ·rw [if_neg hr] at h1 ⊢;rw [Int.mul_neg,Int.natCast_add,Int.mul_add] at h1;omega
 ·rw [if_neg h] at h1 ⊢;omega
theorem sC (x:Int) (d:Nat) (hd:0<d) (hs:(bd x.natAbs).length+(bd d).length<34359738368:=by omega):aJ prog 58 [(zT x:aD),(zT (d:Int):aD)] (.ret [zT (x/(d:Int)),zT (x%(d:Int))]):=by
 refine bO func58 Hs ?_;have hf:=nH x d hd;have he:=MP x d hd;have hql:=cQ (Nat.div_le_self x.natAbs d);have hrl:=cQ (Nat.le_of_lt (Nat.mod_lt x.natAbs hd));have hrd:=Nat.mod_lt x.natAbs hd;have hsx:=bD x;obtain ⟨q,hq⟩:∃ q,x.natAbs/d=q:=⟨_,rfl⟩
 obtain ⟨r,hr⟩:∃ r,x.natAbs%d=r:=⟨_,rfl⟩
 have hov:=fU x.natAbs d hd hs;rw [hq,hr] at hov;rw [hq] at hql;rw [hr] at hrl hrd;rw [hq,hr] at hf;rw [hr] at he;apply aA hov rfl;dsimp only [aG,aH];obtain ⟨z,hz⟩:∃ z:Int,(if x<0 then -(q:Int) else q)=z:=⟨_,rfl⟩
 have hza:z.natAbs=q:=by rw [←hz];split<;>omega
 apply aA (dR x.sign z (bd q) (eY _) (by rw [dF];exact hza) (fun hne=>by
  rw [dF] at hne;rcases hsx with ⟨h,e⟩ | ⟨h,e⟩ | ⟨h,e⟩
  ·rw [e];rw [if_pos h] at hz;exact Int.sign_eq_neg_one_of_neg (by omega)
  ·subst h;simp at hq;omega
  ·rw [e];rw [if_neg (by omega)] at hz;exact Int.sign_eq_one_of_pos (by omega))) rfl
 apply aA (dR 1 (r:Int) (bd r) (eY _) (by rw [dF];rfl) (fun hne=>by rw [dF] at hne;exact Int.sign_eq_one_of_pos (by omega))) rfl;apply vn bA rfl;refine vs _ rfl ?_ ?_<;>intro h4
 ·have hx0:x<0:=by rcases hsx with ⟨h,e⟩ | ⟨h,e⟩ | ⟨h,e⟩<;>omega
  rw [if_pos hx0] at hz hf he;have hsr:=bD (r:Int);apply vn bW rfl;dsimp only [aG,aH];refine vs _ rfl ?_ ?_<;>intro h6
  ·apply aA (dI 1) rfl;dsimp only [aG,aH];apply aA (uP z 1 (by rw [hza];omega) (by show (bd 1).length<_;rw [vL];simp)) rfl;apply aA (uP (d:Int) (r:Int) (by rw [Int.natAbs_natCast];omega) (by rw [Int.natAbs_natCast];omega)) rfl;dsimp only [aG,aH];have hr0:r≠0:=by rcases hsr with ⟨h,e⟩ | ⟨h,e⟩ | ⟨h,e⟩<;>omega
   rw [if_neg hr0] at hf he;rw [show x/(d:Int)=z-1 by omega,show x%(d:Int)=(d:Int)-r by omega];exact aE rfl
  have hr0:r=0:=by rcases hsr with ⟨h,e⟩ | ⟨h,e⟩ | ⟨h,e⟩<;>omega
  rw [if_pos hr0] at hf he;rw [show x/(d:Int)=z by omega,show x%(d:Int)=(r:Int) by omega];exact aE rfl
 have hx0:¬ x<0:=by rcases hsx with ⟨h,e⟩ | ⟨h,e⟩ | ⟨h,e⟩<;>omega
 rw [if_neg hx0] at hz hf he;rw [show x/(d:Int)=z by omega,he];exact aE rfl
theorem vW (m:Nat) (hm:(bd m).length≤4:=by omega):aJ prog 112 [(.one (bT m):aD)] (.ret [.one (.int .i64 m)]):=by
 refine bO func112 IA ?_;refine bE {i:Nat // i≤(bd m).length} (fun g=>[.one (.int .i64 (bv ((bd m).take g.1):Nat)), .one (.int .i64 g.1)]) (fun g=>(bd m).length-g.1) ⟨0,fK _⟩ aM.rfl (fun _=>rfl) ?_;rintro ⟨i,hi⟩;dsimp only [aG,aH] at hi ⊢;apply vn (bB dM (bF _)) rfl;apply vn bA rfl;refine vs _ rfl ?_ ?_<;>intro h3
 ·obtain ⟨x,hx⟩:∃ x,(bd m)[i]? = some x:=⟨_,dJ (by omega)⟩
  have hxB:=(eY m).get hx;have hb:=Ev ((eY m).take i);rw [List.length_take,Nat.min_eq_left hi] at hb;have hp:=FB (i:=i);have hb2:=Ev ((eY m).take (i+1));rw [List.length_take,Nat.min_eq_left (by omega)] at hb2;have hp2:=FB (i:=i+1);have hsn:bv ((bd m).take (i+1))=bv ((bd m).take i)*32768+x:=by rw [take_succ hx,uX]
  generalize bv ((bd m).take i)=y at *;apply vn (gS) rfl;apply vn (dC dM hx) rfl;dsimp only [aG,aH];apply vn (cL Iy) rfl;apply vn (aF) rfl;apply vn (aF) rfl;dsimp only [aG,aH];exact aZ rfl ⟨⟨i+1,by omega⟩,⟨aD.Sub.of_eq (congrArg (fun q:Int=>aD.one (aL.int .i64 q)) (by show (y:Int)*32768+x=((bv ((bd m).take (i+1)):Nat):Int);omega)),aD.Sub.same,trivial⟩,by show (bd m).length-(i+1)<(bd m).length-i;omega⟩
 rw [show i=(bd m).length by omega,List.take_length,dF];exact aE rfl
set_option maxHeartbeats 1000000 in
theorem FQ (x y:Int) (hs:(bd x.natAbs).length<17179869184:=by omega) (hs2:(bd y.natAbs).length<17179869184:=by omega):aJ prog 140 [(zT x:aD),(zT y:aD)] (.ret [zT ((Nat.gcd x.natAbs y.natAbs:Nat):Int)]):=by
 refine bO func140 NI ?_;refine bE {p:Nat×Nat // Nat.gcd p.1 p.2=Nat.gcd x.natAbs y.natAbs∧(bd p.1).length<17179869184∧(bd p.2).length<17179869184} (fun p=>[.one (bT p.1.1), .one (bT p.1.2), .one (.int .i64 0), .one (.exact (.slice none 0 0))]) (fun p=>p.1.2) ⟨(x.natAbs,y.natAbs),rfl,hs,hs2⟩ aM.rfl (fun _=>rfl) ?_;rintro ⟨⟨a,b⟩,hg,ha,hb⟩;dsimp only [aG,aH] at hg ha hb ⊢;have hbz:(bd b).length=0↔b=0:=by rw [List.length_eq_zero_iff,wO]
 have hml:=cQ (Nat.mod_le a b);apply vn (bB dM (bF _)) rfl;apply vn bC rfl;refine vs _ rfl ?_ ?_<;>intro h3
 ·have hb0:0<b:=by
   rcases Nat.eq_zero_or_pos b with h | h
   ·have:=hbz.2 h;omega
   ·exact h
  apply vn (bB dM (bF _)) rfl;apply vn jK rfl;dsimp only [aG,aH];refine vs _ rfl ?_ ?_<;>intro h6
  ·apply vn (bB dM (bF _)) rfl;apply vn jK rfl;refine vs _ rfl ?_ ?_<;>intro h9
   ·have h4:∀ n,(bd n).length≤4→n<1152921504606846976:=fun n hn=>Nat.lt_of_lt_of_le (wD n) (FB hn);have ha4:=h4 a (by omega);have hb4:=h4 b (by omega);apply aA (vW a) rfl;apply aA (vW b) rfl;dsimp only [aG,aH];refine bE {p:Nat×Nat // Nat.gcd p.1 p.2=Nat.gcd x.natAbs y.natAbs∧p.1<1152921504606846976∧p.2<1152921504606846976} (fun p=>[.one (.int .i64 p.1.1), .one (.int .i64 p.1.2)]) (fun p=>p.1.2) ⟨(a,b),hg,ha4,hb4⟩ aM.rfl (fun _=>rfl) ?_;rintro ⟨⟨p,q⟩,hpq,hp,hq⟩;dsimp only [aG,aH] at hpq hp hq ⊢;apply vn bW rfl;refine vs _ rfl ?_ ?_<;>intro h14
    ·apply vn (wL (c:=((p%q:Nat):Int)) (by omega) (by rw [Int.tmod_eq_emod_of_nonneg (jY _),←Int.natCast_emod])) rfl;exact aZ rfl ⟨⟨(q,p%q),by rw [←hpq,Nat.gcd_comm p q,Nat.gcd_rec q p,Nat.gcd_comm],hq,Nat.lt_of_le_of_lt (Nat.mod_le _ _) hp⟩,aM.rfl,Nat.mod_lt _ (by omega)⟩
    have hq0:q=0:=by omega
    subst hq0;rw [Nat.gcd_zero_right] at hpq;apply aA (dI p) rfl;dsimp only [aG,aH];rw [←hpq];exact aE rfl
   apply aA (fU a b hb0) rfl;dsimp only [aG,aH];exact aZ rfl ⟨⟨(b,a%b),by rw [←hg,Nat.gcd_comm a b,Nat.gcd_rec b a,Nat.gcd_comm],hb,by show (bd (a%b)).length<_;omega⟩,aM.rfl,Nat.mod_lt _ hb0⟩
  apply aA (fU a b hb0) rfl;dsimp only [aG,aH];exact aZ rfl ⟨⟨(b,a%b),by rw [←hg,Nat.gcd_comm a b,Nat.gcd_rec b a,Nat.gcd_comm],hb,by show (bd (a%b)).length<_;omega⟩,aM.rfl,Nat.mod_lt _ hb0⟩
 have hb0:b=0:=hbz.1 (by omega);subst hb0;rw [Nat.gcd_zero_right] at hg;apply aA (dR 1 (a:Int) (bd a) (eY _) (by rw [dF];rfl) (fun hne=>by rw [dF] at hne;exact Int.sign_eq_one_of_pos (by omega))) rfl;dsimp only [aG,aH];rw [←hg];exact aE rfl
open Go Go.Proofs Tryz Ord
def WW:Tr:=aN .eql 3 5 0 0 2 4 (.split (.u 1 0) (.need (.call 59 [(WK 1)] [(some 2)]) (.call ⟨.value (.func 59),#[(.const (I3 1))],#[2]⟩) 33 true (.ret [(G2 2)])) (.ret [(.agg [(U 0 2),(U 0 3)])]))
theorem Uf:aI prog f50 (fun _=>none) [.v (some 4)]=WW:=by kernel_rfl
def RR:Tr:=aN .eql 3 28 1 9 0 4 (.split (.u 10 0) (.ret [(.agg [(U 3 0),(U 3 1),(U 4 0),(U 4 1)])]) (aC 111 [(W 3 1),(W 5 1)] [none,none] [36,38] [31,31] 143 false (aC 111 [(W 4 1),(W 5 1)] [none,none] [44,46] [31,31] 143 false (aC 114 [(W 3 0),(W 11 0)] [(some 2)] [51,52] [3,31] 33 false (.need (.call 114 [(WK 1),(W 13 0)] [(some 2)]) (.call ⟨.value (.func 114),#[(.const (I3 1)),(tT 54)],#[3,31]⟩) 33 true (.ret [(.agg [(U 15 0),(U 15 1),(U 16 0),(U 16 1)])]))))))
def XW:Tr:=aN .eql 3 22 1 6 0 4 (.split (.u 7 0) (.need (.prim [(W 5 1),(WK 0)] none) (.indexAddr 31 (tT 26) (.const (I3 0))) 0 false (oO 8 0 none 3 27 RR)) (aC 111 [(W 3 1),(W 5 1)] [none,none] [36,38] [31,31] 143 false (aC 111 [(W 4 1),(W 5 1)] [none,none] [44,46] [31,31] 143 false (aC 114 [(W 3 0),(W 8 0)] [(some 2)] [51,52] [3,31] 33 false (.need (.call 114 [(WK 1),(W 10 0)] [(some 2)]) (.call ⟨.value (.func 114),#[(.const (I3 1)),(tT 54)],#[3,31]⟩) 33 true (.ret [(.agg [(U 12 0),(U 12 1),(U 13 0),(U 13 1)])]))))))
def RS:Tr:=aN .eql 3 28 1 7 0 4 (.split (.u 8 0) (.ret [(.agg [(U 0 0),(U 0 1),(U 1 0),(U 1 1)])]) (aC 111 [(W 0 1),(W 3 1)] [none,none] [36,38] [31,31] 143 false (aC 111 [(W 1 1),(W 3 1)] [none,none] [44,46] [31,31] 143 false (aC 114 [(W 0 0),(W 9 0)] [(some 2)] [51,52] [3,31] 33 false (.need (.call 114 [(WK 1),(W 11 0)] [(some 2)]) (.call ⟨.value (.func 114),#[(.const (I3 1)),(tT 54)],#[3,31]⟩) 33 true (.ret [(.agg [(U 13 0),(U 13 1),(U 14 0),(U 14 1)])]))))))
def TW:Tr:=aN .eql 3 22 1 4 0 4 (.split (.u 5 0) (.need (.prim [(W 3 1),(WK 0)] none) (.indexAddr 31 (tT 26) (.const (I3 0))) 0 false (oO 6 0 none 3 27 RS)) (aC 111 [(W 0 1),(W 3 1)] [none,none] [36,38] [31,31] 143 false (aC 111 [(W 1 1),(W 3 1)] [none,none] [44,46] [31,31] 143 false (aC 114 [(W 0 0),(W 6 0)] [(some 2)] [51,52] [3,31] 33 false (.need (.call 114 [(WK 1),(W 8 0)] [(some 2)]) (.call ⟨.value (.func 114),#[(.const (I3 1)),(tT 54)],#[3,31]⟩) 33 true (.ret [(.agg [(U 10 0),(U 10 1),(U 11 0),(U 11 1)])]))))))
def YK:Tr:=aN .lss 3 11 0 1 0 4 (.split (.u 2 0) (aC 113 [(G2 0)] [(some 2)] [13] [33] 33 false (aC 113 [(G2 1)] [(some 2)] [15] [33] 33 true (aC 140 [(G2 3),(G2 4)] [(some 2)] [17,18] [33,33] 33 true (eU 5 1 21 31 XW)))) (aC 140 [(G2 0),(G2 1)] [(some 2)] [17,18] [33,33] 33 true (eU 3 1 21 31 TW)))
theorem IV:aI prog f95 (fun _=>none) [.v (some 2), .v (some 2)]=YK:=by kernel_rfl
def Pz:Tr:=.ret [(.agg [(U 1 0),(U 1 1),(U 2 0),(U 2 1)])]
def Vn:Tr:=aC 59 [(W 0 0)] [(some 2)] [3] [2] 33 true (.need (.call 59 [(WK 1)] [(some 2)]) (.call ⟨.value (.func 59),#[(.const (I3 1))],#[2]⟩) 33 true Pz)
theorem Ry:aI prog f42 (fun _=>none) [.v none]=Vn:=by kernel_rfl
def XX:Tr:=aC 59 [(W 0 0)] [(some 2)] [5] [2] 33 false (aC 59 [(W 1 0)] [(some 2)] [7] [2] 33 true (aC 95 [(G2 2),(G2 3)] [(some 4)] [6,8] [33,33] 35 true (.ret [(G4 4)])))
theorem YF:aI prog f31 (fun _=>none) [.v none, .v none]=XX:=by kernel_rfl
def YD:Tr:=aC 54 [(G2 1),(G2 4)] [(some 2)] [11,13] [33,33] 33 false (aC 61 [(G2 3),(G2 5)] [(some 2)] [9,14] [33,33] 33 false (aC 50 [(G4 0)] [(some 2)] [16] [35] 33 false (aC 50 [(G4 1)] [(some 2)] [18] [35] 33 false (aC 54 [(G2 7),(G2 8)] [(some 2)] [17,19] [33,33] 33 true (aC 95 [(G2 6),(G2 9)] [(some 4)] [15,20] [33,33] 35 true (.ret [(G4 10)]))))))
def VP:Tr:=aC 50 [(G4 1)] [(some 2)] [7] [35] 33 false (aC 54 [(G2 0),(G2 2)] [(some 2)] [6,8] [33,33] 33 false (aC 50 [(G4 0)] [(some 2)] [12] [35] 33 false YD))
theorem UD:aI prog f44 (fun _=>none) [.v (some 4), .v (some 4)]=VP:=by kernel_rfl
def Wu:Tr:=aC 52 [(G4 1)] [(some 4)] [6] [35] 35 true (aC 44 [(G4 0),(G4 2)] [(some 4)] [5,7] [35,35] 35 true (.ret [(G4 3)]))
theorem UC:aI prog f43 (fun _=>none) [.v (some 4), .v (some 4)]=Wu:=by kernel_rfl
def PO:Tr:=.ret [(G4 6)]
def Yz:Tr:=aC 54 [(G2 0),(G2 1)] [(some 2)] [6,8] [33,33] 33 false (aC 50 [(G4 0)] [(some 2)] [10] [35] 33 false (aC 50 [(G4 1)] [(some 2)] [12] [35] 33 false (aC 54 [(G2 3),(G2 4)] [(some 2)] [11,13] [33,33] 33 true (aC 95 [(G2 2),(G2 5)] [(some 4)] [9,14] [33,33] 35 true PO))))
theorem SI:aI prog f33 (fun _=>none) [.v (some 4), .v (some 4)]=Yz:=by kernel_rfl
def UP:Tr:=aC 50 [(G4 1)] [(some 2)] [7] [35] 33 false (aC 54 [(G2 0),(G2 2)] [(some 2)] [6,8] [33,33] 33 false (aC 50 [(G4 0)] [(some 2)] [10] [35] 33 false (aC 54 [(G2 4),(G2 1)] [(some 2)] [11,13] [33,33] 33 true (aC 95 [(G2 3),(G2 5)] [(some 4)] [9,14] [33,33] 35 true PO))))
theorem QK:aI prog f75 (fun _=>none) [.v (some 4), .v (some 4)]=UP:=by kernel_rfl
def PK:Tr:=aC 50 [(G4 0)] [(some 2)] [6] [35] 33 true Pz
def VH:Tr:=aC 113 [(G2 0)] [(some 2)] [4] [33] 33 false PK
theorem TU:aI prog f52 (fun _=>none) [.v (some 4)]=VH:=by kernel_rfl
def Xu:Tr:=aC 49 [(G2 0)] [(some 2)] [4] [33] 33 false PK
theorem Tj:aI prog f78 (fun _=>none) [.v (some 4)]=Xu:=by kernel_rfl
def Yh:Tr:=aC 50 [(G4 1)] [(some 2)] [7] [35] 33 false (aC 54 [(G2 0),(G2 2)] [(some 2)] [6,8] [33,33] 33 false (aC 50 [(G4 0)] [(some 2)] [12] [35] 33 false (aC 54 [(G2 1),(G2 4)] [(some 2)] [11,13] [33,33] 33 true (aC 60 [(G2 3),(G2 5)] [none] [9,14] [33,33] 3 true (.ret [(W 6 0)])))))
theorem UF:aI prog f45 (fun _=>none) [.v (some 4), .v (some 4)]=Yh:=by kernel_rfl
def VU:Tr:=.ret [(W 0 0)]
theorem Nx:aI prog f11 (fun _=>none) [.v (some 4)]=VU:=by kernel_rfl
structure RQ where
 q:Rat
 z:Bool
 h:z=true→q=0
def RQ.of (q:Rat):RQ:=⟨q,false,fun h=>by cases h⟩
def RQ.nil:RQ:=⟨0,true,fun _=>rfl⟩
abbrev rC (a:RQ):List aL:=[.int .i64 a.q.num.sign,bT a.q.num.natAbs, .int .i64 (if a.z then 0 else 1),bT (if a.z then 0 else a.q.den)]
abbrev jO (a:RQ):aD:=.agg (rC a)
theorem RQ.rX (q:Rat):(RQ.of q).q=q:=rfl
theorem Sc (q:Rat):zT (q.den:Int) = .agg [.int .i64 1,bT q.den]:=Fi q.den_pos
theorem tV:aV aL.Sub [.int .i64 0, .exact (.slice none 0 0), .int .i64 0, .exact (.slice none 0 0)] (rC RQ.nil):=⟨aL.Sub.same,MG rfl,aL.Sub.same,MG rfl,trivial⟩
theorem fG (a:RQ):aJ prog 50 [(jO a:aD)] (.ret [zT (a.q.den:Int)]):=by
 refine bO func50 Uf ?_;apply vn aO rfl;refine vs _ rfl ?_ ?_<;>intro h1
 ·have ha:a.z=true:=by cases h:a.z<;>simp_all
  have hq:=a.h ha;apply aA (dI 1) rfl;dsimp only [aG,aH];rw [hq];exact aE rfl
 have ha:a.z=false:=by cases h:a.z<;>simp_all
 refine aE ?_;rw [Sc];show [aD.agg [.int .i64 (if a.z then 0 else 1),bT (if a.z then 0 else a.q.den)]]=_;rw [ha];rfl
theorem cN {n B:Nat} (h:n<2^B):(bd n).length≤B:=gC (Nat.lt_of_lt_of_le h (Nat.pow_le_pow_left (by omega) B))
def oD (n d:Int):Rat:=mkRat (if d<0 then -n else n) d.natAbs
theorem OZ {z:Int} {d:Nat} (hd:d≠0:=by omega):(mkRat z d).num=z/((z.natAbs.gcd d:Nat):Int)∧(mkRat z d).den=d/z.natAbs.gcd d∧(mkRat z d).num.natAbs=z.natAbs/z.natAbs.gcd d∧(mkRat z d).num.sign=z.sign:=by
 obtain ⟨h1,h2⟩:=KJ (z:=z) hd;have hg:0<z.natAbs.gcd d:=Nat.gcd_pos_of_pos_right _ (by omega);have hgz:z≠0→z.natAbs.gcd d≤z.natAbs:=fun h=>Nat.gcd_le_left _ (by omega)
 have h3:(mkRat z d).num.natAbs=z.natAbs/z.natAbs.gcd d:=by
  rw [h1];generalize z.natAbs/z.natAbs.gcd d=t;split<;>omega
 refine ⟨?_,h2,h3,?_⟩
 ·rw [←Rat.normalize_eq_mkRat hd,Rat.normalize_eq hd]
 ·rcases bD z with ⟨h,e⟩ | ⟨h,e⟩ | ⟨h,e⟩
  ·rw [e,h1,decide_eq_true h,if_pos rfl];have:=Nat.div_pos (hgz (by omega)) hg;exact Int.sign_eq_neg_one_of_neg (by omega)
  ·rw [e];subst h;rw [Rat.zero_mkRat];rfl
  ·rw [e,h1,decide_eq_false (by omega),if_neg (by simp)];have:=Nat.div_pos (hgz (by omega)) hg;exact Int.sign_eq_one_of_pos (by omega)
theorem pQ {g:Nat} (h:(bd g).length=1) {x:Nat} (hx:(bd g)[0]? = some x):g=x:=by
 match hb:bd g,h with
 | [y],_=>
   rw [hb] at hx;simp only [List.getElem?_cons_zero,aK] at hx;subst hx;rw [←dF g,hb,uB];simp [bv,val]
theorem qK {q:Rat}:jO (RQ.of q) = .agg [.int .i64 q.num.sign,bT q.num.natAbs, .int .i64 1,bT q.den]:=rfl
set_option maxHeartbeats 1000000 in
theorem kW (n d:Int) (hd:d≠0:=by omega) (hs2:(bd d.natAbs).length<8589934592:=by omega) (hs:(bd n.natAbs).length<8589934592:=by omega):aJ prog 95 [(zT n:aD),(zT d:aD)] (.ret [jO (.of (oD n d))]):=by
 refine bO func95 IV ?_;have hsd:=bD d
 have key:∀ m:Int,m.natAbs=n.natAbs→oD n d=mkRat m d.natAbs→(oD n d).den=d.natAbs/Nat.gcd n.natAbs d.natAbs∧(oD n d).num.natAbs=n.natAbs/Nat.gcd n.natAbs d.natAbs∧(oD n d).num.sign=m.sign:=fun m hm e=>by
  have:=OZ (z:=m) (d:=d.natAbs);rw [hm] at this;rw [e];exact ⟨this.2.1,this.2.2.1,this.2.2.2⟩
 have hg:0<Nat.gcd n.natAbs d.natAbs:=Nat.gcd_pos_of_pos_right _ (by omega);have hgd:Nat.gcd n.natAbs d.natAbs≤d.natAbs:=Nat.gcd_le_right _ (by omega);have hgl:=cQ hgd;have hdg:=Nat.div_pos hgd hg;have hnl:=cQ (Nat.div_le_self n.natAbs (Nat.gcd n.natAbs d.natAbs));have hdl:=cQ (Nat.div_le_self d.natAbs (Nat.gcd n.natAbs d.natAbs));apply vn bA rfl;refine vs _ rfl ?_ ?_<;>intro h1
 ·have hd0:d<0:=by rcases hsd with ⟨h,e⟩ | ⟨h,e⟩ | ⟨h,e⟩<;>omega
  have hR:oD n d=mkRat (-n) d.natAbs:=by rw [oD,if_pos hd0]
  obtain ⟨k1,k2,k3⟩:=key (-n) (Int.natAbs_neg n) hR;generalize oD n d=q at *;apply aA (vB n) rfl;apply aA (vB d) rfl;dsimp only [aG,aH];have hc:=FQ (-n) (-d) (by rw [Int.natAbs_neg];omega) (by rw [Int.natAbs_neg];omega);rw [Int.natAbs_neg,Int.natAbs_neg] at hc;apply aA hc rfl;generalize hG:Nat.gcd n.natAbs d.natAbs=g at *;apply vn (bB dM (bF _)) rfl;apply vn aO rfl;refine vs _ rfl ?_ ?_<;>intro h7
  ·obtain ⟨x,hx⟩:∃ x,(bd g)[0]? = some x:=⟨_,dJ (by rw [Int.natAbs_natCast] at h7;omega)⟩
   apply vn (dC dM (show (bd ((g:Int)).natAbs)[0]? = some x from hx)) rfl;dsimp only [aG,aH];apply vn (cL Iy) rfl;apply vn aO rfl;refine vs _ rfl ?_ ?_<;>intro h11
   ·have hg1:g=1:=by
     have:=pQ (g:=g) (by rw [Int.natAbs_natCast] at h7;omega) hx;omega
    rw [hg1,Nat.div_one] at k1 k2;refine aE ?_;rw [qK,k3,k2,k1];show [aD.agg [.int .i64 (-n).sign,bT (-n).natAbs, .int .i64 (-d).sign,bT (-d).natAbs]]=_;rw [Int.natAbs_neg,Int.natAbs_neg,Int.sign_eq_one_of_pos (show 0 < -d by omega)]
   have ho1:=fU n.natAbs g hg;have ho2:=fU d.natAbs g hg;rw [←k2] at ho1 hnl;rw [←k1] at ho2 hdl hdg;have hn':(-n).natAbs=n.natAbs:=Int.natAbs_neg n;have hd':(-d).natAbs=d.natAbs:=Int.natAbs_neg d;rw [←hn'] at ho1;rw [←hd'] at ho2;apply aA ho1 rfl;apply aA ho2 rfl;dsimp only [aG,aH];apply aA (dR (-n).sign q.num _ (eY _) (by rw [dF]) (fun _=>k3)) rfl;apply aA (dR 1 (q.den:Int) _ (eY _) (by rw [dF];rfl) (fun _=>Int.sign_eq_one_of_pos (by omega))) rfl;dsimp only [aG,aH];refine aE ?_;rw [qK];show [aD.agg [.int .i64 q.num.sign,bT q.num.natAbs, .int .i64 (q.den:Int).sign,bT (q.den:Int).natAbs]]=_;rw [Int.sign_eq_one_of_pos (show (0:Int)<q.den by omega),Int.natAbs_natCast]
  have ho1:=fU n.natAbs g hg;have ho2:=fU d.natAbs g hg;rw [←k2] at ho1 hnl;rw [←k1] at ho2 hdl hdg;have hn':(-n).natAbs=n.natAbs:=Int.natAbs_neg n;have hd':(-d).natAbs=d.natAbs:=Int.natAbs_neg d;rw [←hn'] at ho1;rw [←hd'] at ho2;apply aA ho1 rfl;apply aA ho2 rfl;apply aA (dR (-n).sign q.num _ (eY _) (by rw [dF]) (fun _=>k3)) rfl;apply aA (dR 1 (q.den:Int) _ (eY _) (by rw [dF];rfl) (fun _=>Int.sign_eq_one_of_pos (by omega))) rfl;dsimp only [aG,aH];refine aE ?_;rw [qK];show [aD.agg [.int .i64 q.num.sign,bT q.num.natAbs, .int .i64 (q.den:Int).sign,bT (q.den:Int).natAbs]]=_;rw [Int.sign_eq_one_of_pos (show (0:Int)<q.den by omega),Int.natAbs_natCast]
 have hd0:0<d:=by rcases hsd with ⟨h,e⟩ | ⟨h,e⟩ | ⟨h,e⟩<;>omega
 have hR:oD n d=mkRat n d.natAbs:=by rw [oD,if_neg (by omega)]
 obtain ⟨k1,k2,k3⟩:=key n rfl hR;generalize oD n d=q at *;have hc:=FQ n d;apply aA hc rfl;generalize hG:Nat.gcd n.natAbs d.natAbs=g at *;apply vn (bB dM (bF _)) rfl;apply vn aO rfl;refine vs _ rfl ?_ ?_<;>intro h26
 ·obtain ⟨x,hx⟩:∃ x,(bd g)[0]? = some x:=⟨_,dJ (by rw [Int.natAbs_natCast] at h26;omega)⟩
  apply vn (dC dM (show (bd ((g:Int)).natAbs)[0]? = some x from hx)) rfl;dsimp only [aG,aH];apply vn (cL Iy) rfl;apply vn aO rfl;refine vs _ rfl ?_ ?_<;>intro h30
  ·have hg1:g=1:=by
    have:=pQ (g:=g) (by rw [Int.natAbs_natCast] at h26;omega) hx;omega
   rw [hg1,Nat.div_one] at k1 k2;refine aE ?_;rw [qK,k3,k2,k1];show [aD.agg [.int .i64 n.sign,bT n.natAbs, .int .i64 d.sign,bT d.natAbs]]=_;rw [Int.sign_eq_one_of_pos (show 0<d by omega)]
  have ho1:=fU n.natAbs g hg;have ho2:=fU d.natAbs g hg;rw [←k2] at ho1 hnl;rw [←k1] at ho2 hdl hdg;apply aA ho1 rfl;apply aA ho2 rfl;dsimp only [aG,aH];apply aA (dR n.sign q.num _ (eY _) (by rw [dF]) (fun _=>k3)) rfl;apply aA (dR 1 (q.den:Int) _ (eY _) (by rw [dF];rfl) (fun _=>Int.sign_eq_one_of_pos (by omega))) rfl;dsimp only [aG,aH];refine aE ?_;rw [qK];show [aD.agg [.int .i64 q.num.sign,bT q.num.natAbs, .int .i64 (q.den:Int).sign,bT (q.den:Int).natAbs]]=_;rw [Int.sign_eq_one_of_pos (show (0:Int)<q.den by omega),Int.natAbs_natCast]
 have ho1:=fU n.natAbs g hg;have ho2:=fU d.natAbs g hg;rw [←k2] at ho1 hnl;rw [←k1] at ho2 hdl hdg;apply aA ho1 rfl;apply aA ho2 rfl;apply aA (dR n.sign q.num _ (eY _) (by rw [dF]) (fun _=>k3)) rfl;apply aA (dR 1 (q.den:Int) _ (eY _) (by rw [dF];rfl) (fun _=>Int.sign_eq_one_of_pos (by omega))) rfl;dsimp only [aG,aH];refine aE ?_;rw [qK];show [aD.agg [.int .i64 q.num.sign,bT q.num.natAbs, .int .i64 (q.den:Int).sign,bT (q.den:Int).natAbs]]=_;rw [Int.sign_eq_one_of_pos (show (0:Int)<q.den by omega),Int.natAbs_natCast]
theorem qY {n:Int} {d:Nat}:oD n (d:Int)=mkRat n d:=by
 rw [oD,if_neg (by omega),Int.natAbs_natCast]
theorem DX {a b:Rat} (hb:b≠0):oD (a.num*(b.den:Int)) ((a.den:Int)*b.num)=a/b:=by
 have hn:b.num≠0:=fun e=>hb (Rat.num_eq_zero.1 e);have ha:=a.den_pos;rw [←KQ hb,oD,Int.natAbs_mul,Int.natAbs_natCast];by_cases h:b.num<0
 ·rw [if_pos (Int.mul_neg_of_pos_of_neg (by omega) h),decide_eq_true h,if_pos rfl,Int.mul_neg]
 ·rw [if_neg (by have:=Int.mul_nonneg (show (0:Int)≤a.den by omega) (show 0≤b.num by omega);omega),decide_eq_false h,if_neg (by simp)]
theorem Pe {n d:Int} (hd:d≠0):oD n d=(n:Rat)/(d:Rat):=by
 have h:=DX (a:=(n:Rat)) (b:=(d:Rat)) (by rw [Ne,←Rat.num_eq_zero,Rat.num_intCast];exact hd);rw [Rat.num_intCast,Rat.num_intCast,Rat.den_intCast,Rat.den_intCast] at h;rw [←h];congr 1<;>omega
theorem Fit.bd {B:Nat} {q:Rat} (h:Fit B q):(bd q.num.natAbs).length≤B∧(bd q.den).length≤B:=⟨cN h.1,cN h.2⟩
theorem sI (n:Int) (h1:-9223372036854775808≤n:=by omega) (h2:n<9223372036854775808:=by omega):aJ prog 42 [(.one (.int .i64 n):aD)] (.ret [jO (.of (n:Rat))]):=by
 refine bO func42 Ry ?_;apply aA (dI n h1 h2) rfl;apply aA (dI 1) rfl;dsimp only [aG,aH];rw [qK,Rat.num_intCast,Rat.den_intCast];exact aE rfl
theorem Kl (n d:Int) (h1:-9223372036854775808≤n:=by omega) (h2:n<9223372036854775808:=by omega) (hd:d≠0:=by omega) (h3:-9223372036854775808≤d:=by omega) (h4:d<9223372036854775808:=by omega):aJ prog 31 [(.one (.int .i64 n):aD),(.one (.int .i64 d):aD)] (.ret [jO (.of ((n:Rat)/(d:Rat)))]):=by
 refine bO func31 YF ?_;apply aA (dI n h1 h2) rfl;apply aA (dI d h3 h4) rfl;dsimp only [aG,aH];have hn:=cN (n:=n.natAbs) (B:=64) (by omega);have hdd:=cN (n:=d.natAbs) (B:=64) (by omega);apply aA (kW n d hd) rfl;rw [Pe hd];exact aE rfl
theorem rP (a:RQ):aJ prog 52 [(jO a:aD)] (.ret [jO (.of (-a.q))]):=by
 refine bO func52 TU ?_;apply aA (vB a.q.num) rfl;apply aA (fG a) rfl;dsimp only [aG,aH];refine aE ?_;rw [qK,Rat.neg_num,Rat.neg_den];show [aD.agg [.int .i64 (-a.q.num).sign,bT (-a.q.num).natAbs, .int .i64 (a.q.den:Int).sign,bT (a.q.den:Int).natAbs]]=_;have:=a.q.den_pos;rw [Int.sign_eq_one_of_pos (show (0:Int)<a.q.den by omega),Int.natAbs_natCast]
theorem Qm (a:RQ):aJ prog 78 [(jO a:aD)] (.ret [jO (.of a.q.abs)]):=by
 refine bO func78 Tj ?_;apply aA (FL a.q.num) rfl;apply aA (fG a) rfl;dsimp only [aG,aH];refine aE ?_;rw [qK,(tZ a.q).1,(tZ a.q).2];show [aD.agg [.int .i64 ((a.q.num.natAbs:Nat):Int).sign,bT ((a.q.num.natAbs:Nat):Int).natAbs, .int .i64 (a.q.den:Int).sign,bT (a.q.den:Int).natAbs]]=_;have:=a.q.den_pos;rw [Int.sign_eq_one_of_pos (show (0:Int)<a.q.den by omega)];simp only [Int.natAbs_natCast]
theorem jV (a:RQ):aJ prog 11 [(jO a:aD)] (.ret [.one (.int .i64 a.q.num.sign)]):=by
 refine bO func11 Nx ?_;exact aE rfl
theorem kJ (a b:RQ) (A B:Nat) (ha:Fit A a.q) (hb:Fit B b.q) (h:A+B≤4294967296:=by omega):aJ prog 33 [(jO a:aD),(jO b:aD)] (.ret [jO (.of (a.q*b.q))]):=by
 refine bO func33 SI ?_;obtain ⟨ha1,ha2⟩:=Fit.bd ha;obtain ⟨hb1,hb2⟩:=Fit.bd hb;have hn:=cN (aX ha.1 hb.1);have hd:=cN (aX ha.2 hb.2);have hpa:=a.q.den_pos;have hpb:=b.q.den_pos;apply aA (eG a.q.num b.q.num) rfl;apply aA (fG a) rfl;apply aA (fG b) rfl;apply aA (eG (a.q.den:Int) (b.q.den:Int) (by rw [Int.natAbs_natCast,Int.natAbs_natCast];omega)) rfl;rw [←Int.natCast_mul];dsimp only [aG,aH];apply aA (kW _ ((a.q.den*b.q.den:Nat):Int) (by have:=Nat.mul_pos hpa hpb;omega) (by rw [Int.natAbs_natCast];omega) (by rw [Int.natAbs_mul];omega)) rfl;rw [qY,←Rat.mul_def'];exact aE rfl
theorem sA (a b:RQ) (A B:Nat) (ha:Fit A a.q) (hb:Fit B b.q) (h:A+B≤4294967296:=by omega):aJ prog 44 [(jO a:aD),(jO b:aD)] (.ret [jO (.of (a.q+b.q))]):=by
 refine bO func44 UD ?_;obtain ⟨ha1,ha2⟩:=Fit.bd ha;obtain ⟨hb1,hb2⟩:=Fit.bd hb;have hn1:=cN (aX ha.1 hb.2);have hn2:=cN (aX hb.1 ha.2);have hd:=cN (aX ha.2 hb.2);have hpa:=a.q.den_pos;have hpb:=b.q.den_pos
 have hsum:(bd (a.q.num*(b.q.den:Int)+b.q.num*(a.q.den:Int)).natAbs).length≤A+B+1:=by
  apply cN;have h1:=aX ha.1 hb.2;have h2:=aX hb.1 ha.2;rw [Nat.add_comm B A] at h2;rw [Nat.pow_succ];refine Nat.lt_of_le_of_lt (Int.natAbs_add_le _ _) ?_;rw [Int.natAbs_mul,Int.natAbs_mul,Int.natAbs_natCast,Int.natAbs_natCast];omega
 apply aA (fG b) rfl;apply aA (eG a.q.num (b.q.den:Int) (by rw [Int.natAbs_natCast];omega)) rfl;apply aA (fG a) rfl;apply aA (eG b.q.num (a.q.den:Int) (by rw [Int.natAbs_natCast];omega)) rfl;dsimp only [aG,aH];apply aA (tX _ _ (by rw [Int.natAbs_mul,Int.natAbs_natCast];omega) (by rw [Int.natAbs_mul,Int.natAbs_natCast];omega)) rfl;apply aA (fG a) rfl;apply aA (fG b) rfl;apply aA (eG (a.q.den:Int) (b.q.den:Int) (by rw [Int.natAbs_natCast,Int.natAbs_natCast];omega)) rfl;rw [←Int.natCast_mul a.q.den b.q.den];dsimp only [aG,aH];apply aA (kW _ ((a.q.den*b.q.den:Nat):Int) (by have:=Nat.mul_pos hpa hpb;omega) (by rw [Int.natAbs_natCast];omega)) rfl;rw [qY,←Rat.add_def'];exact aE rfl
theorem Sf (a b:RQ) (A B:Nat) (ha:Fit A a.q) (hb:Fit B b.q) (h:A+B≤4294967296:=by omega):aJ prog 43 [(jO a:aD),(jO b:aD)] (.ret [jO (.of (a.q-b.q))]):=by
 refine bO func43 UC ?_;apply aA (rP b) rfl;apply aA (sA a (.of (-b.q)) A B ha hb.neg h) rfl;rw [RQ.rX,←Rat.sub_eq_add_neg];exact aE rfl
theorem IX (a b:RQ) (A B:Nat) (hb0:b.q≠0) (ha:Fit A a.q) (hb:Fit B b.q) (h:A+B≤4294967296:=by omega):aJ prog 75 [(jO a:aD),(jO b:aD)] (.ret [jO (.of (a.q/b.q))]):=by
 refine bO func75 QK ?_;obtain ⟨ha1,ha2⟩:=Fit.bd ha;obtain ⟨hb1,hb2⟩:=Fit.bd hb;have hn:=cN (aX ha.1 hb.2);have hd:=cN (aX ha.2 hb.1);have hpa:=a.q.den_pos;have hnb:b.q.num≠0:=fun e=>hb0 (Rat.num_eq_zero.1 e);apply aA (fG b) rfl;apply aA (eG a.q.num (b.q.den:Int) (by rw [Int.natAbs_natCast];omega)) rfl;apply aA (fG a) rfl;apply aA (eG (a.q.den:Int) b.q.num (by rw [Int.natAbs_natCast];omega)) rfl;dsimp only [aG,aH];apply aA (kW _ _ (Int.mul_ne_zero (by omega) hnb) (by rw [Int.natAbs_mul,Int.natAbs_natCast];omega) (by rw [Int.natAbs_mul,Int.natAbs_natCast];omega)) rfl;rw [DX hb0];exact aE rfl
theorem Ql (a b:RQ) (A B:Nat) (ha:Fit A a.q) (hb:Fit B b.q) (h:A+B≤4294967296:=by omega):aJ prog 45 [(jO a:aD),(jO b:aD)] (.ret [.one (.int .i64 (fF a.q b.q))]):=by
 refine bO func45 UF ?_;obtain ⟨ha1,ha2⟩:=Fit.bd ha;obtain ⟨hb1,hb2⟩:=Fit.bd hb;have hn1:=cN (aX ha.1 hb.2);have hn2:=cN (aX hb.1 ha.2);apply aA (fG b) rfl;apply aA (eG a.q.num (b.q.den:Int) (by rw [Int.natAbs_natCast];omega)) rfl;apply aA (fG a) rfl;apply aA (eG b.q.num (a.q.den:Int) (by rw [Int.natAbs_natCast];omega)) rfl;dsimp only [aG,aH];apply aA (pN _ _ (by rw [Int.natAbs_mul,Int.natAbs_natCast];omega) (by rw [Int.natAbs_mul,Int.natAbs_natCast];omega)) rfl;rw [←rR];exact aE rfl
end Go.Sy
