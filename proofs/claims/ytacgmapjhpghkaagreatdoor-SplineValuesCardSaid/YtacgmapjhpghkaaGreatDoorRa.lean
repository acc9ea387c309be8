/- Part. -/
import Derived.Test.YtacgmapjhpghkaaGreatDoorNb
set_option linter.all false
namespace Go.Sy
open Go Go.Proofs Tryz Ord
def Rw:Tr:=.ret [(W 1 0)]
def bg0:Tr:=.split (.u 3 0) (.need (.prim [(W 1 0),(WK 0)] none) (.indexAddr 47 (tT 7) (.const (I3 0))) 0 false (dA 4 0 none 3 8 (bB .eql 3 9 0 5 0 4 (.split (.u 6 0) (.need (.prim [(W 1 0),(WK 1)] none) (.slice 47 (tT 12) (some (.const (I3 1))) none none) 47 false (.back 0 [lV 7 0])) Rw)))) Rw
def ba0:Tr:=.loop 0 [lV 0 0] (cL 1 0 3 47 (bB .gtr 3 4 0 2 0 4 bg0))
theorem Yb:aM prog f229 (fun _=>none) [.v none]=ba0:=by kernel_rfl
def bn1:Tr:=aU 229 [(W 1 0)] [none] [5] [47] 47 true (cL 2 0 7 47 (bB .eql 3 8 0 3 0 4 (.split (.u 4 0) (.ret [(.agg [(tE (.int .i64 0)),tN])]) (.ret [(.agg [(U 0 0),(U 2 0)])]))))
theorem ak4:aM prog f189 (fun _=>none) [.v none, .v none]=bn1:=by kernel_rfl
def ba9:Tr:=bB .lss 3 12 0 5 0 4 (.split (.u 6 0) (.need (.prim [(W 5 0)] none) (.unOp .neg 3 (tT 14)) 3 false (.need (.lit 1 [[(.u 7 0)]]) (.buildSlice 47 1 #[(0,(tT 16))]) 47 false (.need (.app 1 8 (some 8) none (some 3)) (.call ⟨.builtin .append,#[(tT 17),(tT 18)],#[47,47]⟩) 47 false (bB .quo 2 20 32768 2 0 2 (.back 0 [lV 10 0, .row 9]))))) (.need (.lit 1 [[(.u 5 0)]]) (.buildSlice 47 1 #[(0,(tT 16))]) 47 false (.need (.app 1 8 (some 7) none (some 3)) (.call ⟨.builtin .append,#[(tT 17),(tT 18)],#[47,47]⟩) 47 false (bB .quo 2 20 32768 2 0 2 (.back 0 [lV 9 0, .row 8])))))
def aw3:Tr:=bB .rem 2 10 32768 2 0 2 ba9
def Xt:Tr:=.ret [(G2 5)]
def bc4:Tr:=bB .lss 2 6 0 0 0 4 (.split (.u 1 0) (.loop 0 [lV 0 0, .nilrow] (bB .neq 2 8 0 2 0 4 (.split (.u 4 0) aw3 (aU 189 [(WK (-1)),(.one (.c (.sr 1 3)))] [(some 2)] [22,23] [3,47] 49 true Xt)))) (.loop 0 [lV 0 0, .nilrow] (bB .neq 2 8 0 2 0 4 (.split (.u 4 0) aw3 (aU 189 [(WK 1),(.one (.c (.sr 1 3)))] [(some 2)] [22,23] [3,47] 49 true Xt)))))
theorem ai1:aM prog f114 (fun _=>none) [.v none]=bc4:=by kernel_rfl
def av4:Tr:=.ret [(WK (-1))]
def av2:Tr:=.ret [(WK 1)]
def aL0:Tr:=dA 14 0 none 3 33 (dN 1 0 6 0 47 35 36 (dA 16 0 none 3 37 (cE .gtr 3 34 38 15 0 17 0 4 (.split (.u 18 0) av2 (bB .add 3 20 1 6 0 3 (.back 0 [lV 5 0,lV 19 0]))))))
def ax6:Tr:=dN 0 0 6 0 47 22 23 (dA 9 0 none 3 24 (dN 1 0 6 0 47 26 27 (dA 11 0 none 3 28 (cE .lss 3 25 29 10 0 12 0 4 (.split (.u 13 0) av4 (dN 0 0 6 0 47 31 32 aL0))))))
def VP:Tr:=.ret [(WK 0)]
def bp3:Tr:=cL 1 0 8 47 (cE .neq 3 7 9 2 0 3 0 4 (.split (.u 4 0) (cL 0 0 11 47 (cL 1 0 13 47 (cE .lss 3 12 14 5 0 6 0 4 (.split (.u 7 0) av4 av2)))) (.loop 0 [lK 0,lK 0] (cL 0 0 17 47 (cE .lss 3 16 18 6 0 7 0 4 (.split (.u 8 0) ax6 VP))))))
def bq0:Tr:=cL 0 0 6 47 bp3
theorem Yd:aM prog f227 (fun _=>none) [.v none, .v none]=bq0:=by kernel_rfl
def bc5:Tr:=.split (.u 3 0) VP (cL 0 0 10 47 (bB .sub 3 11 1 4 0 3 (cE .sub 3 12 13 5 0 1 0 3 (dN 0 0 6 0 47 9 14 (dA 7 0 none 3 15 (.ret [(W 8 0)]))))))
def bn6:Tr:=cL 0 0 6 47 (cE .geq 3 5 7 1 0 2 0 4 bc5)
theorem Yv:aM prog f248 (fun _=>none) [.v none, .v none]=bn6:=by kernel_rfl
def as6:Tr:=.ret [(W 5 0)]
def bf1:Tr:=cL 0 0 5 47 (cL 1 0 7 47 (cE .gtr 3 6 8 2 0 3 0 4 (.split (.u 4 0) (cL 0 0 10 47 as6) (cL 1 0 12 47 as6))))
theorem Qy:aM prog f247 (fun _=>none) [.v none, .v none]=bf1:=by kernel_rfl
def aH7:Tr:=bB .sub 3 40 32768 16 0 3 (bB .sub 3 43 1 4 0 3 (cE .sub 3 44 45 19 0 7 0 3 (.need (.idx 8 (.u 20 0)) (.indexAddr 47 (tT 42) (tT 46)) 0 false (.need (.strow 8 1 (.u 20 0) 0 [(.u 18 0)]) (.store 3 (tT 48) (tT 47)) 0 false (bB .add 3 21 1 7 0 3 (.back 0 [lK 1,lV 22 0, .row 21]))))))
def aN0:Tr:=.split (.u 17 0) aH7 (bB .sub 3 43 1 4 0 3 (cE .sub 3 44 45 18 0 7 0 3 (.need (.idx 8 (.u 19 0)) (.indexAddr 47 (tT 42) (tT 46)) 0 false (.need (.strow 8 1 (.u 19 0) 0 [(.u 16 0)]) (.store 3 (tT 48) (tT 47)) 0 false (bB .add 3 21 1 7 0 3 (.back 0 [lK (-1),lV 21 0, .row 20]))))))
def aP1:Tr:=bB .sub 3 40 32768 14 0 3 (bB .sub 3 43 1 4 0 3 (cE .sub 3 44 45 18 0 7 0 3 (.need (.idx 8 (.u 19 0)) (.indexAddr 47 (tT 42) (tT 46)) 0 false (.need (.strow 8 1 (.u 19 0) 0 [(.u 17 0)]) (.store 3 (tT 48) (tT 47)) 0 false (bB .add 3 21 1 7 0 3 (.back 0 [lK 1,lV 21 0, .row 20]))))))
def aY1:Tr:=.split (.u 16 0) aP1 (bB .sub 3 43 1 4 0 3 (cE .sub 3 44 45 17 0 7 0 3 (.need (.idx 8 (.u 18 0)) (.indexAddr 47 (tT 42) (tT 46)) 0 false (.need (.strow 8 1 (.u 18 0) 0 [(.u 14 0)]) (.store 3 (tT 48) (tT 47)) 0 false (bB .add 3 21 1 7 0 3 (.back 0 [lK 0,lV 20 0, .row 19]))))))
def bs6:Tr:=cE .mul 3 26 29 2 0 11 0 3 (cE .add 3 25 30 10 0 12 0 3 (cE .add 3 31 32 13 0 6 0 3 (bB .lss 3 34 0 14 0 4 (.split (.u 15 0) (bB .add 3 36 32768 14 0 3 (bB .geq 3 38 32768 16 0 4 aN0)) (bB .geq 3 38 32768 14 0 4 aY1)))))
def bb5:Tr:=bB .add 3 14 1 3 0 3 (.need (.make [(.int .i64 0)] 8 (.u 4 0) (.u 4 0)) (.makeSlice 47 (tT 16) (tT 16)) 47 false (.loop 0 [lK 0,lK 0, .row 5] (cE .lss 3 18 19 7 0 4 0 4 (.split (.u 9 0) (aU 248 [(W 0 0),(W 7 0)] [none] [23,24] [47,3] 3 false (aU 248 [(W 1 0),(W 7 0)] [none] [27,28] [47,3] 3 false bs6)) (aU 229 [(.one (.c (.sr 1 8)))] [none] [49] [47] 47 true (.ret [(W 10 0)]))))))
def bg2:Tr:=aU 247 [(W 0 0),(W 1 0)] [none] [12,13] [47,47] 3 true bb5
theorem ai6:aM prog f226 (fun _=>none) [.v none, .v none, .v none]=bg2:=by kernel_rfl
def bf0:Tr:=.need (.prim [(W 0 0)] none) (.unOp .neg 3 (tT 4)) 3 false (.ret [(.agg [(U 1 0),(U 0 1)])])
theorem al0:aM prog f217 (fun _=>none) [.v (some 2)]=bf0:=by kernel_rfl
def Rr:Tr:=.ret [(G2 8)]
def bi4:Tr:=cE .eql 3 14 16 0 0 1 0 4 (.split (.u 4 0) (.need (.call 226 [(W 0 1),(W 1 1),(WK 1)] [none]) (.call ⟨.value (.func 226),#[(tT 21),(tT 23),(.const (I3 1))],#[47,47,3]⟩) 47 true (aU 189 [(W 0 0),(W 5 0)] [(some 2)] [19,24] [3,47] 49 true (.ret [(G2 6)]))) (aU 227 [(W 0 1),(W 1 1)] [none] [27,29] [47,47] 3 true (bB .geq 3 30 0 5 0 4 (.split (.u 6 0) (.need (.call 226 [(W 0 1),(W 1 1),(WK (-1))] [none]) (.call ⟨.value (.func 226),#[(tT 35),(tT 37),(.const (I3 (-1)))],#[47,47,3]⟩) 47 true (aU 189 [(W 0 0),(W 7 0)] [(some 2)] [33,38] [3,47] 49 true Rr)) (.need (.call 226 [(W 1 1),(W 0 1),(WK (-1))] [none]) (.call ⟨.value (.func 226),#[(tT 43),(tT 45),(.const (I3 (-1)))],#[47,47,3]⟩) 47 true (aU 189 [(W 1 0),(W 7 0)] [(some 2)] [41,46] [3,47] 49 true Rr))))))
def ba6:Tr:=bB .eql 3 6 0 0 0 4 (.split (.u 2 0) (.ret [(G2 1)]) (bB .eql 3 10 0 1 0 4 (.split (.u 3 0) (.ret [(G2 0)]) bi4)))
theorem ab3:aM prog f187 (fun _=>none) [.v (some 2), .v (some 2)]=ba6:=by kernel_rfl
def bm0:Tr:=aU 217 [(G2 1)] [(some 2)] [6] [49] 49 true (aU 187 [(G2 0),(G2 2)] [(some 2)] [5,7] [49,49] 49 true (.ret [(G2 3)]))
theorem aj3:aM prog f191 (fun _=>none) [.v (some 2), .v (some 2)]=bm0:=by kernel_rfl
def aF0:Tr:=bB .add 3 58 1 27 0 3 (bB .rem 3 60 32768 26 0 3 (.need (.idx 15 (.u 28 0)) (.indexAddr 47 (tT 55) (tT 59)) 0 false (.need (.strow 15 1 (.u 28 0) 0 [(.u 29 0)]) (.store 3 (tT 62) (tT 61)) 0 false (bB .quo 3 63 32768 26 0 3 (bB .sub 3 32 1 14 0 3 (.back 1 [lV 31 0,lV 32 0, .row 30]))))))
def aQ0:Tr:=dA 20 0 none 3 44 (dN 1 1 14 0 47 47 48 (dA 22 0 none 3 49 (cE .mul 3 45 50 21 0 23 0 3 (cE .add 3 40 51 19 0 24 0 3 (cE .add 3 52 53 25 0 13 0 3 (cE .add 3 56 57 8 0 14 0 3 aF0))))))
def aE0:Tr:=bB .geq 3 30 0 14 0 4 (.split (.u 16 0) (cE .add 3 35 36 8 0 14 0 3 (bB .add 3 37 1 17 0 3 (.need (.idx 15 (.u 18 0)) (.indexAddr 47 (tT 34) (tT 38)) 0 false (.need (.ldrow 15 (.u 18 0) 0 1 false) (.load 3 (tT 39)) 3 false (dN 0 1 8 0 47 42 43 aQ0))))) (.need (.idx 15 (.u 8 0)) (.indexAddr 47 (tT 65) (tT 66)) 0 false (.need (.strow 15 1 (.u 8 0) 0 [(.u 13 0)]) (.store 3 (tT 68) (tT 67)) 0 false (bB .sub 3 24 1 8 0 3 (.back 0 [lV 18 0, .row 17])))))
def bn4:Tr:=bB .sub 3 20 1 6 0 3 (.loop 0 [lV 7 0, .row 5] (bB .geq 3 22 0 8 0 4 (.split (.u 10 0) (cL 1 1 27 47 (bB .sub 3 28 1 11 0 3 (.loop 1 [lK 0,lV 12 0, .row 9] aE0))) (cE .mul 3 70 72 0 0 1 0 3 (aU 189 [(W 11 0),(.one (.c (.sr 1 9)))] [(some 2)] [73,74] [3,47] 49 true (.ret [(G2 12)]))))))
def bj3:Tr:=cL 0 1 11 47 (cL 1 1 14 47 (cE .add 3 12 15 2 0 3 0 3 (.need (.make [(.int .i64 0)] 8 (.u 4 0) (.u 4 0)) (.makeSlice 47 (tT 16) (tT 16)) 47 false (cL 0 1 19 47 bn4))))
theorem ag0:aM prog f119 (fun _=>none) [.v (some 2), .v (some 2)]=bj3:=by kernel_rfl
def bi3:Tr:=aU 191 [(G2 0),(G2 1)] [(some 2)] [5,6] [49,49] 49 true (.ret [(W 2 0)])
theorem ao8:aM prog f118 (fun _=>none) [.v (some 2), .v (some 2)]=bi3:=by kernel_rfl
abbrev rB (ds:List Nat):List (List aE):=ds.map fun (d:Nat)=>[aE.int .i64 (d:Int)]
abbrev sB (ds:List Nat):aE:=.slice 1 (rB ds)
abbrev bT (n:Nat):aE:=sB (bd n)
abbrev zC (z:Int):List aE:=[.int .i64 z.sign,bT z.natAbs]
abbrev zT (z:Int):aK:=.agg (zC z)
theorem Wl:DB 32768 []:=fun d hd=>by cases hd
theorem ZT {n:Nat} (h:n=0):aE.Sub (.exact (.slice none 0 0)) (bT n):=by
 subst h;rw [bT,Be];exact aE.Sub.nil
theorem sliceB {ds:List Nat} {x:Operand} {ty:Nat} {y:Operand} {k:IntKind} {n:Int} {m:Nat} (hm:n.toNat=m) (h0:0≤n:=by omega) (hn:m≤ds.length:=by omega):bC prog (.slice 47 x (some y) none none) ty [.one (sB ds), .one (.int k n)] (.one (sB (ds.drop m))):=by
 have:=Kf (P:=prog) (T:=47) (x:=x) (y:=y) (ty:=ty) (k:=k) (n:=n) (ts:=rB ds) eT h0 (by rw [aH,hm];exact hn);rw [hm,rB,←List.map_drop] at this;exact this
theorem aq5 {ds:List Nat} {x:Operand} {ty:Nat} {y:Operand} {k:IntKind} {n:Int} {m:Nat} (h0:0≤n:=by omega) (hm:n.toNat=m:=by omega) (hn:m≤ds.length:=by omega):bC prog (.slice 47 x none (some y) none) ty [.one (sB ds), .one (.int k n)] (.one (sB (ds.take m))):=by
 have:=xZ (P:=prog) (T:=47) (x:=x) (y:=y) (ty:=ty) (k:=k) (n:=n) (ts:=rB ds) eT h0 (by rw [aH,hm];exact hn);rw [hm,rB,←List.map_take] at this;exact this
theorem qV (ds:List Nat) (hd:DB 32768 ds) (hs:ds.length<4611686018427387904:=by omega):aN prog 229 [(.one (sB ds):aK)] (.ret [.one (bT (bv ds))]):=by
 refine cW func229 Yb ?_;refine bJ {xs:List Nat // DB 32768 xs∧bv xs=bv ds∧xs.length≤ds.length} (fun g=>[.one (sB g.1)]) (fun g=>g.1.length) ⟨ds,hd,rfl,bA _⟩ aO.rfl (fun _=>rfl) ?_;rintro ⟨xs,hx,hv,hl⟩;dsimp only [aC,aD] at hx hv hl ⊢;apply vn (aL eT (aH _)) rfl;apply vn eF rfl;refine vs _ rfl ?_ ?_<;>intro h3
 ·obtain ⟨d,hget⟩:∃ d,xs[0]? = some d:=⟨_,bI (by omega)⟩
  apply vn (aG eT (by omega) (by omega) hget) rfl;apply vn (bD Vm) rfl;dsimp only [aC,aD];apply vn cB rfl;refine vs _ rfl ?_ ?_<;>intro h7
  ·apply vn (sliceB rfl) rfl
   exact aY rfl ⟨⟨xs.drop 1,hx.drop 1,by
    have h7:d=0:=by omega
    rw [←hv,Ue hget,h7,Nat.mul_zero,Nat.add_zero],by show (xs.drop 1).length≤_;rw [List.length_drop];omega⟩,aO.rfl,by show (xs.drop 1).length<xs.length;rw [List.length_drop];omega⟩
  have e:bd (bv ds)=xs:=by
   rw [←hv];refine bh4 hx fun d' h'=>?_;rw [List.head?_eq_getElem?,hget] at h';simp only [aP] at h';subst h';omega
  rw [bT,e];exact aJ rfl
 have e:bd (bv ds)=xs:=by
  have:xs = []:=List.eq_nil_of_length_eq_zero (by omega);rw [←hv,this];exact Be
 rw [bT,e];exact aJ rfl
theorem fQ (s z:Int) (ds:List Nat) (hd:DB 32768 ds) (h1:z.natAbs=bv ds) (h2:bv ds≠0→z.sign=s) (hs:ds.length<4611686018427387904:=by omega):aN prog 189 [(.one (.int .i64 s):aK),(.one (sB ds):aK)] (.ret [zT z]):=by
 refine cW func189 ak4 ?_;have hlen:(bd (bv ds)).length=0↔bv ds=0:=by rw [List.length_eq_zero_iff,Dl]
 have hl2:(bd (bv ds)).length≤ds.length:=jA (PQ hd);apply aA (qV ds hd hs) rfl;apply vn (aL eT (aH _)) rfl;apply vn cB rfl;refine vs _ rfl ?_ ?_<;>intro h3
 ·have hz:z=0:=by
   have:=hlen.1 (by omega);omega
  subst hz;exact eM ⟨⟨aE.Sub.same,ZT rfl,trivial⟩,trivial⟩
 refine aJ ?_;rw [←h2 (fun h=>h3 (by have:=hlen.2 h;omega)),←h1];rfl
theorem MJ {ds:List Nat} {m n:Nat} (hm:m≠0) (h:bv ds+32768^ds.length*m=n) (hn:n<18446744073709551616:=by omega):ds.length≤4:=by
 rcases Nat.lt_or_ge ds.length 5 with h1 | h1
 ·omega
 ·have h2:32768^5≤32768^ds.length:=Nat.pow_le_pow_right (by omega) h1;have h3:32768^ds.length≤32768^ds.length*m:=Nat.le_mul_of_pos_right _ (by omega);omega
theorem yJ {ds:List Nat} {m n:Nat} (h:bv ds+32768^ds.length*m=n):bv (m%32768::ds)+32768^(m%32768::ds).length*(m/32768)=n:=by
 rw [AH,List.length_cons,Nat.pow_succ,Nat.add_assoc,Nat.mul_assoc,←Nat.mul_add,Nat.mod_add_div];exact h
theorem neg_tmod {m:Nat}:(-(m:Int)).tmod 32768 = -((m%32768:Nat):Int):=by rw [Int.neg_tmod,Int.tmod_eq_emod_of_nonneg (by omega)];omega
theorem neg_tdiv {m:Nat}:(-(m:Int)).tdiv 32768 = -((m/32768:Nat):Int):=by rw [Int.neg_tdiv,Int.tdiv_eq_ediv_of_nonneg (by omega)];omega
theorem mP (n:Int) (h1:-9223372036854775808≤n:=by omega) (h2:n<9223372036854775808:=by omega):aN prog 114 [(.one (.int .i64 n):aK)] (.ret [zT n]):=by
 refine cW func114 ai1 ?_;apply vn bF rfl;refine vs _ rfl (fun h1=>?_) (fun h1'=>?_)
 ·refine bJ {g:Nat×List Nat // bv g.2+32768^g.2.length*g.1=n.natAbs∧DB 32768 g.2∧g.1≤9223372036854775808∧g.2.length≤5} (fun g=>[.one (.int .i64 (-(g.1.1:Int))), .rows (rB g.1.2)]) (fun g=>g.1.1) ⟨(n.natAbs,[]),by simp [bv,val],Wl,by show n.natAbs≤_;omega,by simp⟩ ⟨aK.Sub.of_eq (congrArg (fun q=>aK.one (aE.int .i64 q)) (by show n = -((n.natAbs:Nat):Int);omega)),aK.Sub.same,trivial⟩ (fun _=>rfl) ?_;rintro ⟨⟨m,ds⟩,hv,hd,hm,hl⟩;dsimp only [aC,aD] at hv hd hm hl ⊢;apply vn dS rfl;refine vs _ rfl ?_ ?_<;>intro h4
  ·have hm0:m≠0:=by omega
   have hl4:=MJ hm0 hv
   have hd2:DB 32768 (m%32768::ds):=fun d hd'=>by
    rcases List.mem_cons.1 hd' with rfl | hd'
    ·omega
    ·exact hd d hd'
   apply vn (Dc (c:=-((m%32768:Nat):Int)) (by decide) neg_tmod) rfl;apply vn bF rfl;refine vs _ rfl ?_ ?_<;>intro h7
   ·apply vn (JH) rfl;dsimp only [aC,aD];refine dJ (us:=rB [m%32768]) (by show [[aE.int .i64 _]] = [[aE.int .i64 _]];congr 3;omega) ?_;refine wF (ts:=rB [m%32768]) (us:=rB ds) (vs:=rB (m%32768::ds)) rfl rfl rfl (by simp;omega) (by simp [maxLen];omega) ?_;apply vn (oE (c:=-((m/32768:Nat):Int)) (by decide) (by rw [neg_tdiv];exact fI)) rfl;dsimp only [aC,aD];exact aY rfl ⟨⟨(m/32768,m%32768::ds),yJ hv,hd2,by show m/32768≤_;omega,by show ds.length+1≤5;omega⟩,aO.rfl,by show m/32768<m;omega⟩
   refine dJ (us:=rB [m%32768]) (by show [[aE.int .i64 _]] = [[aE.int .i64 _]];congr 3;omega) ?_;refine wF (ts:=rB [m%32768]) (us:=rB ds) (vs:=rB (m%32768::ds)) rfl rfl rfl (by simp;omega) (by simp [maxLen];omega) ?_;apply vn (oE (c:=-((m/32768:Nat):Int)) (by decide) (by rw [neg_tdiv];exact fI)) rfl;dsimp only [aC,aD];exact aY rfl ⟨⟨(m/32768,m%32768::ds),yJ hv,hd2,by show m/32768≤_;omega,by show ds.length+1≤5;omega⟩,aO.rfl,by show m/32768<m;omega⟩
  have hm0:m=0:=by omega
  subst hm0;rw [Nat.mul_zero,Nat.add_zero] at hv;apply aA (fQ (-1) n ds hd hv.symm (fun _=>Int.sign_eq_neg_one_of_neg h1)) rfl;exact aJ rfl
 refine bJ {g:Nat×List Nat // bv g.2+32768^g.2.length*g.1=n.natAbs∧DB 32768 g.2∧g.1≤9223372036854775808∧g.2.length≤5∧g.1<9223372036854775808} (fun g=>[.one (.int .i64 (g.1.1:Int)), .rows (rB g.1.2)]) (fun g=>g.1.1) ⟨(n.natAbs,[]),by simp [bv,val],Wl,by show n.natAbs≤_;omega,by simp,by show n.natAbs<_;omega⟩ ⟨aK.Sub.of_eq (congrArg (fun q=>aK.one (aE.int .i64 q)) (by show n=((n.natAbs:Nat):Int);omega)),aK.Sub.same,trivial⟩ (fun _=>rfl) ?_;rintro ⟨⟨m,ds⟩,hv,hd,hm,hl,hmm⟩;dsimp only [aC,aD] at hv hd hm hl hmm ⊢;apply vn dS rfl;refine vs _ rfl ?_ ?_<;>intro h21
 ·have hm0:m≠0:=by omega
  have hl4:=MJ hm0 hv
  have hd2:DB 32768 (m%32768::ds):=fun d hd'=>by
   rcases List.mem_cons.1 hd' with rfl | hd'
   ·omega
   ·exact hd d hd'
  apply vn (kZ) rfl;apply vn bF rfl;refine vs _ rfl ?_ ?_<;>intro h24
  ·exfalso;omega
  refine dJ (us:=rB [m%32768]) (by show [[aE.int .i64 _]] = [[aE.int .i64 _]];congr 3) ?_;dsimp only [aC,aD];refine wF (ts:=rB [m%32768]) (us:=rB ds) (vs:=rB (m%32768::ds)) rfl rfl rfl (by simp;omega) (by simp [maxLen];omega) ?_;apply vn (xQ) rfl;dsimp only [aC,aD];exact aY rfl ⟨⟨(m/32768,m%32768::ds),yJ hv,hd2,by show m/32768≤_;omega,by show ds.length+1≤5;omega,by show m/32768<_;omega⟩,aO.rfl,by show m/32768<m;omega⟩
 have hm0:m=0:=by omega
 subst hm0;rw [Nat.mul_zero,Nat.add_zero] at hv;apply aA (fQ 1 n ds hd hv.symm (fun h=>Int.sign_eq_one_of_pos (by omega))) rfl;exact aJ rfl
theorem Ng {xs ys:List Nat} (hx:DB 32768 xs) {i x y:Nat} (hl:xs.length=ys.length) (hi:xs[i]? = some x) (hj:ys[i]? = some y) (ht:xs.take i=ys.take i) (hxy:x<y:=by omega):bv xs<bv ys:=by
 have e:∀ (zs:List Nat) (z:Nat),zs[i]? = some z→bv zs=bv (zs.take i)*32768^(zs.length-i)+(bv (zs.drop (i+1))+32768^(zs.length-(i+1))*z):=fun zs z hz=>by
  have hlt:i<zs.length:=(dR.1 hz).1
  conv=>lhs;rw [←List.take_append_drop i zs]
  rw [Vb,List.length_drop]
  congr 1
  rw [List.drop_eq_getElem_cons hlt,(dR.1 hz).2,AH,List.length_drop]
 rw [e xs x hi,e ys y hj,ht,hl];have h1:=PQ (hx.drop (i+1));rw [List.length_drop,hl] at h1;have h2:32768^(ys.length-(i+1))*(x+1)≤32768^(ys.length-(i+1))*y:=Nat.mul_le_mul_left _ hxy;rw [Nat.mul_add,Nat.mul_one] at h2;omega
theorem tW {a b:Nat} (h:(bd a).length<(bd b).length:=by omega):a<b:=by
 rcases Nat.lt_or_ge a b with h1 | h1
 ·exact h1
 ·have:=eY h1;omega
theorem oB (a b:Nat) (hs:(bd a).length+(bd b).length<1099511627776:=by omega):aN prog 227 [(.one (bT a):aK),(.one (bT b):aK)] (.ret [.one (.int .i64 (eO a b))]):=by
 refine cW func227 Yd ?_;apply vn (aL eT (aH _)) rfl;apply vn (aL eT (aH _)) rfl;apply vn dS rfl;refine vs _ rfl ?_ ?_<;>intro h3
 ·apply vn (aL eT (aH _)) rfl;dsimp only [aC,aD];apply vn (aL eT (aH _)) rfl;apply vn bF rfl;refine vs _ rfl ?_ ?_<;>intro h7
  ·rw [sC (by have:=tW (a:=a) (b:=b);omega)];exact aJ rfl
  rw [sI (by have:=tW (a:=b) (b:=a);omega)];exact aJ rfl
 have hlen:(bd a).length=(bd b).length:=by omega
 refine bJ {i:Nat // i≤(bd a).length∧(bd a).take i=(bd b).take i} (fun g=>[.one (.int .i64 0), .one (.int .i64 g.1)]) (fun g=>(bd a).length-g.1) ⟨0,cM _,rfl⟩ aO.rfl (fun _=>rfl) ?_;rintro ⟨i,hi,ht⟩;dsimp only [aC,aD] at hi ht ⊢;apply vn (aL eT (aH _)) rfl;apply vn bF rfl;refine vs _ rfl ?_ ?_<;>intro h13
 ·obtain ⟨x,hx⟩:∃ x,(bd a)[i]? = some x:=⟨_,bI (by omega)⟩
  obtain ⟨y,hy⟩:∃ y,(bd b)[i]? = some y:=⟨_,bI (by omega)⟩
  apply vn (aG eT (by omega) (by omega) hx) rfl;apply vn (bD Vm) rfl;dsimp only [aC,aD];apply vn (aG eT (by omega) (by omega) hy) rfl;apply vn (bD Vm) rfl;apply vn bF rfl;refine vs _ rfl ?_ ?_<;>intro h19
  ·have:=Ng (hC a) hlen hx hy ht;rw [fK,fK] at this;rw [sC (by omega)];exact aJ rfl
  apply vn (aG eT (by omega) (by omega) hx) rfl;dsimp only [aC,aD];apply vn (bD Vm) rfl;apply vn (aG eT (by omega) (by omega) hy) rfl;apply vn (bD Vm) rfl;apply vn eF rfl;dsimp only [aC,aD];refine vs _ rfl ?_ ?_<;>intro h26
  ·have:=Ng (hC b) hlen.symm hy hx ht.symm;rw [fK,fK] at this;rw [sI (by omega)];exact aJ rfl
  apply vn (aB (by omega) (by omega)) rfl;dsimp only [aC,aD];exact aY rfl ⟨⟨i+1,by omega,by rw [take_succ hx,take_succ hy,ht,show x=y by omega]⟩,aO.rfl,by show (bd a).length-(i+1)<(bd a).length-i;omega⟩
 have hie:i=(bd a).length:=by omega
 subst hie
 have e:bd a=bd b:=by
  rw [List.take_length,List.take_of_length_le (by omega)] at ht;exact ht
 have:a=b:=by rw [←fK a,e,fK]
 rw [this,AP];exact aJ rfl
theorem BH (n i:Nat) (hs:(bd n).length<1099511627776:=by omega) (hi:i<4611686018427387904:=by omega):aN prog 248 [(.one (bT n):aK),(.one (.int .i64 i):aK)] (.ret [.one (.int .i64 ((n/32768^i%32768:Nat):Int))]):=by
 refine cW func248 Yv ?_;have hdg:=MO n i;apply vn (aL eT (aH _)) rfl;apply vn gZ rfl;refine vs _ rfl ?_ ?_<;>intro h2
 ·rw [List.getElem?_eq_none_iff.2 (by rw [List.length_reverse];omega)] at hdg;rw [←hdg];exact aJ rfl
 apply vn (aL eT (aH _)) rfl;apply vn (aI (by omega) (by omega)) rfl;dsimp only [aC,aD];apply vn (aI (by omega) (by omega)) rfl;dsimp only [aC,aD];obtain ⟨d,hd⟩:∃ d,(bd n).reverse[i]? = some d:=⟨_,bI (by rw [List.length_reverse];omega)⟩
 have hd2:(bd n)[(bd n).length-1-i]? = some d:=by rw [AL];exact hd
 rw [hd] at hdg;apply vn (aG eT (by omega) (by omega) hd2) rfl;apply vn (bD Vm) rfl;dsimp only [aC,aD];rw [←hdg];exact aJ rfl
theorem QN (a b:Nat):aN prog 247 [(.one (bT a):aK),(.one (bT b):aK)] (.ret [.one (.int .i64 ((max (bd a).length (bd b).length:Nat):Int))]):=by
 refine cW func247 Qy ?_;apply vn (aL eT (aH _)) rfl;apply vn (aL eT (aH _)) rfl;apply vn eF rfl;refine vs _ rfl ?_ ?_<;>intro h3
 ·apply vn (aL eT (aH _)) rfl;dsimp only [aC,aD];refine aJ ?_;show [aK.one (aE.int .i64 _)] = [aK.one (aE.int .i64 _)]
  congr 3;omega
 apply vn (aL eT (aH _)) rfl;dsimp only [aC,aD];refine aJ ?_;show [aK.one (aE.int .i64 _)] = [aK.one (aE.int .i64 _)]
 congr 3;omega
theorem val_rev (n:Nat):val 32768 (bd n).reverse=n:=fK n
theorem NG (n i:Nat):(bd n).reverse[i]?.getD 0=n/32768^i%32768:=MO n i
set_option maxHeartbeats 1000000 in
theorem kE (a b r:Nat) (k:Int) (hk:k=1∨k = -1) (hs2:(bd b).length<274877906944:=by omega) (hr:(r:Int)=a+k*b:=by omega) (hs:(bd a).length<274877906944:=by omega):aN prog 226 [(.one (bT a):aK),(.one (bT b):aK),(.one (.int .i64 k):aK)] (.ret [.one (bT r)]):=by
 refine cW func226 ai6 ?_;obtain ⟨n,hn⟩:∃ n,max (bd a).length (bd b).length+1=n:=⟨_,rfl⟩
 have hrl:r<32768^n:=by
  have h1:=Cz a;have h2:=Cz b;have h3:32768^(bd a).length≤32768^(n-1):=Nat.pow_le_pow_right (by omega) (by omega);have h4:32768^(bd b).length≤32768^(n-1):=Nat.pow_le_pow_right (by omega) (by omega);have h5:32768^n=32768^(n-1)*32768:=by rw [←Nat.pow_succ];congr 1;omega
  rcases hk with rfl | rfl<;>omega
 apply aA (QN a b) rfl;apply vn (aB (by omega) (by omega)) rfl;dsimp only [aC,aD];refine Bt (n:=n) (f:=fun d:Nat=>[aE.int .i64 (d:Int)]) 0 rfl rfl (by omega) rfl (by omega) (by simp only [maxLen];omega) ?_;refine bJ {g:Nat×Int×List Nat // FY 32768 (bd a).reverse (bd b).reverse n k g.1 g.2.1 g.2.2} (fun g=>[.one (.int .i64 g.1.2.1), .one (.int .i64 g.1.1), .rows (rB g.1.2.2.reverse)]) (fun g=>n-g.1.1) ⟨(0,0,List.replicate n 0),FY.init (by omega) _ _ _ _⟩ ⟨aK.Sub.same,aK.Sub.same,aK.Sub.of_eq (by rw [List.reverse_replicate];rfl),trivial⟩ (fun _=>rfl) ?_;rintro ⟨⟨i,c,os⟩,hI⟩;dsimp only [aC,aD] at hI ⊢;have hil:=hI.le;have hol:=hI.len;have hc0:=hI.c0;have hc1:=hI.c1;apply vn bF rfl;refine vs _ rfl ?_ ?_<;>intro h5
 ·obtain ⟨x,hx⟩:∃ x,a/32768^i%32768=x:=⟨_,rfl⟩
  obtain ⟨y,hy⟩:∃ y,b/32768^i%32768=y:=⟨_,rfl⟩
  have hxB:x<32768:=by rw [←hx];exact Nat.mod_lt _ (by omega)
  have hyB:y<32768:=by rw [←hy];exact Nat.mod_lt _ (by omega)
  have hcall1:=BH a i;have hcall2:=BH b i;rw [hx] at hcall1;rw [hy] at hcall2
  have hnext:∀ (z:Nat) (c':Int),z<32768 → -1≤c'→c'≤1→(z:Int)+32768*c'=x+k*y+c→FY 32768 (bd a).reverse (bd b).reverse n k (i+1) c' (os.set i z):=fun z c' h1 h2 h3 h4=>
   hI.next (by omega) (by rw [NG,hx]) (by rw [NG,hy]) h2 h3 h1 h4
  have hst:∀ z,os.reverse.set (n-1-i) z=(os.set i z).reverse:=fun z=>by rw [←hol];exact Mk (by omega)
  obtain ⟨o0,hgo⟩:∃ o0,os.reverse[n-1-i]? = some o0:=⟨_,bI (by rw [List.length_reverse];omega)⟩
  have hky:k*y=y∨k*y = -(y:Int):=by rcases hk with rfl | rfl<;>simp
  generalize hkyv:k*(y:Int)=ky at hnext hky;apply aA hcall1 rfl;apply aA hcall2 rfl;apply vn (vE (c:=ky) (by rw [hkyv];exact fI)) rfl;dsimp only [aC,aD];apply vn (aB (by omega) (by omega)) rfl;apply vn (aB (by omega) (by omega)) rfl;apply vn bF rfl;refine vs _ rfl ?_ ?_<;>intro h12
  ·apply vn (aB (by omega) (by omega)) rfl;dsimp only [aC,aD];apply vn gZ rfl;refine vs _ rfl ?_ ?_<;>intro h15
   ·exfalso;omega
   apply vn (aI (by omega) (by omega)) rfl;apply vn (aI (by omega) (by omega)) rfl;refine cI rfl rfl (by omega) (by rw [List.length_reverse];omega) ?_;refine gL (d':=(x+ky+c+32768).toNat) rfl rfl (by omega) (by omega) hgo (by show [aE.int .i64 _] = [aE.int .i64 _];congr 2;omega) ?_;rw [hst];dsimp only [aC,aD];apply vn (aB (by omega) (by omega)) rfl;dsimp only [aC,aD];exact aY rfl ⟨⟨(i+1,-1,os.set i (x+ky+c+32768).toNat),hnext _ (-1) (by omega) (by omega) (by omega) (by omega)⟩,aO.rfl,by show n-(i+1)<n-i;omega⟩
  apply vn gZ rfl;refine vs _ rfl ?_ ?_<;>intro h30
  ·apply vn (aI (by omega) (by omega)) rfl;apply vn (aI (by omega) (by omega)) rfl;apply vn (aI (by omega) (by omega)) rfl;dsimp only [aC,aD];refine cI rfl rfl (by omega) (by rw [List.length_reverse];omega) ?_;refine gL (d':=(x+ky+c-32768).toNat) rfl rfl (by omega) (by omega) hgo (by show [aE.int .i64 _] = [aE.int .i64 _];congr 2;omega) ?_;rw [hst];apply vn (aB (by omega) (by omega)) rfl;dsimp only [aC,aD];exact aY rfl ⟨⟨(i+1,1,os.set i (x+ky+c-32768).toNat),hnext _ 1 (by omega) (by omega) (by omega) (by omega)⟩,aO.rfl,by show n-(i+1)<n-i;omega⟩
  apply vn (aI (by omega) (by omega)) rfl;apply vn (aI (by omega) (by omega)) rfl;refine cI rfl rfl (by omega) (by rw [List.length_reverse];omega) ?_;refine gL (d':=(x+ky+c).toNat) rfl rfl (by omega) (by omega) hgo (by show [aE.int .i64 _] = [aE.int .i64 _];congr 2;omega) ?_;rw [hst];apply vn (aB (by omega) (by omega)) rfl;dsimp only [aC,aD];exact aY rfl ⟨⟨(i+1,0,os.set i (x+ky+c).toNat),hnext _ 0 (by omega) (by omega) (by omega) (by omega)⟩,aO.rfl,by show n-(i+1)<n-i;omega⟩
 have hie:i=n:=by omega
 subst hie;have hf:=hI.fin (by omega) (by rw [List.length_reverse];omega) (by rw [List.length_reverse];omega) (r:=r) (by rw [val_rev,val_rev];exact hr) hrl;apply aA (qV os.reverse hI.dg.rev (by rw [List.length_reverse];omega)) rfl;dsimp only [aC,aD];refine aJ ?_;rw [←hf,bv,List.reverse_reverse];rfl
open Go Go.Proofs Tryz Ord
theorem AQ (z:Int):-1≤z.sign∧z.sign≤1:=by rcases cX z with ⟨_,e⟩ | ⟨_,e⟩ | ⟨_,e⟩<;>omega
theorem Bi (z:Int):aN prog 217 [(zT z:aK)] (.ret [zT (-z)]):=by
 refine cW func217 al0 ?_;have:=AQ z;apply vn (JH) rfl;dsimp only [aC,aD];refine aJ ?_;show [aK.agg [.int .i64 (-z.sign),bT z.natAbs]] = [zT (-z)];rw [zT,zC,Int.sign_neg,Int.natAbs_neg]
theorem aL1 {a b:Nat}:(bd (a+b)).length≤max (bd a).length (bd b).length+1:=by
 apply jA;have h1:=Cz a;have h2:=Cz b;have h3:32768^(bd a).length≤32768^(max (bd a).length (bd b).length):=Nat.pow_le_pow_right (by omega) (by omega);have h4:32768^(bd b).length≤32768^(max (bd a).length (bd b).length):=Nat.pow_le_pow_right (by omega) (by omega);rw [Nat.pow_succ];omega
theorem RU (x y:Int) (hx:(bd x.natAbs).length<137438953472) (hy:(bd y.natAbs).length<137438953472):aN prog 187 [(zT x:aK),(zT y:aK)] (.ret [zT (x+y)]):=by
 refine cW func187 ab3 ?_;have hx0:=cX x;have hy0:=cX y
 have hl:∀ n,n≤x.natAbs+y.natAbs→(bd n).length<274877906944:=fun n hn=>by
  have h1:=eY hn;have h2:=aL1 (a:=x.natAbs) (b:=y.natAbs);omega
 apply vn cB rfl;refine vs _ rfl ?_ ?_<;>intro h1
 ·rw [show x=0 by omega,Int.zero_add];exact aJ rfl
 apply vn cB rfl;refine vs _ rfl ?_ ?_<;>intro h4
 ·rw [show y=0 by omega,Int.add_zero];exact aJ rfl
 apply vn cB rfl;refine vs _ rfl ?_ ?_<;>intro h7
 ·apply aA (kE x.natAbs y.natAbs (x.natAbs+y.natAbs) 1 (.inl rfl)) rfl;dsimp only [aC,aD]
  apply aA (fQ x.sign (x+y) _ (hC _) (by rw [fK];omega) (fun _=>by
   rcases hx0 with ⟨h,e⟩ | ⟨h,e⟩ | ⟨h,e⟩
   ·rw [e];exact Int.sign_eq_neg_one_of_neg (by omega)
   ·omega
   ·rw [e];exact Int.sign_eq_one_of_pos (by omega)) (by have:=hl _ (bA _);omega)) rfl
  exact aJ rfl
 apply aA (oB x.natAbs y.natAbs) rfl;apply vn gZ rfl;dsimp only [aC,aD]
 have hci:(0≤eO (x.natAbs:Int) (y.natAbs:Int))↔y.natAbs≤x.natAbs:=by
  have:=qL (a:=(x.natAbs:Int)) (b:=(y.natAbs:Int));omega
 refine vs _ rfl ?_ ?_<;>intro h13
 ·apply aA (kE x.natAbs y.natAbs (x.natAbs-y.natAbs) (-1) (.inr rfl)) rfl
  apply aA (fQ x.sign (x+y) _ (hC _) (by rw [fK];omega) (fun hne=>by
   rw [fK] at hne;rcases hx0 with ⟨h,e⟩ | ⟨h,e⟩ | ⟨h,e⟩
   ·rw [e];exact Int.sign_eq_neg_one_of_neg (by omega)
   ·omega
   ·rw [e];exact Int.sign_eq_one_of_pos (by omega)) (by have:=hl (x.natAbs-y.natAbs) (by omega);omega)) rfl
  exact aJ rfl
 apply aA (kE y.natAbs x.natAbs (y.natAbs-x.natAbs) (-1) (.inr rfl)) rfl
 apply aA (fQ y.sign (x+y) _ (hC _) (by rw [fK];omega) (fun hne=>by
  rw [fK] at hne;rcases hy0 with ⟨h,e⟩ | ⟨h,e⟩ | ⟨h,e⟩
  ·rw [e];exact Int.sign_eq_neg_one_of_neg (by omega)
  ·omega
  ·rw [e];exact Int.sign_eq_one_of_pos (by omega)) (by have:=hl (y.natAbs-x.natAbs) (by omega);omega)) rfl
 exact aJ rfl
theorem al3 (x y:Int) (hx:(bd x.natAbs).length<137438953472) (hy:(bd y.natAbs).length<137438953472):aN prog 191 [(zT x:aK),(zT y:aK)] (.ret [zT (x-y)]):=by
 refine cW func191 aj3 ?_;apply aA (Bi y) rfl;apply aA (RU x (-y) hx (by rw [Int.natAbs_neg];exact hy)) rfl;rw [←Int.sub_eq_add_neg];exact aJ rfl
theorem ZI (x y:Int):(x-y).sign=eO x y:=by
 unfold eO;rcases cX (x-y) with ⟨h,e⟩ | ⟨h,e⟩ | ⟨h,e⟩<;>rw [e]
 ·rw [if_pos (by omega)]
 ·rw [if_neg (by omega),if_neg (by omega)]
 ·rw [if_neg (by omega),if_pos (by omega)]
theorem aa2 (x y:Int) (hx:(bd x.natAbs).length<137438953472) (hy:(bd y.natAbs).length<137438953472):aN prog 118 [(zT x:aK),(zT y:aK)] (.ret [.one (.int .i64 (eO x y))]):=by
 refine cW func118 ao8 ?_;apply aA (al3 x y hx hy) rfl;dsimp only [aC,aD];rw [←ZI];exact aJ rfl
theorem To {n la i:Nat} (h:la=(bd n).length) (hi:i<la:=by omega):∃ d,(bd n)[la-1-i]? = some d∧(bd n).reverse[i]? = some d∧d<32768:=by
 subst h;have hd:(bd n).reverse[i]? = some ((bd n).reverse[i]'(by rw [List.length_reverse];exact hi)):=bI _;exact ⟨_,by rw [AL hi];exact hd,hd,(hC n).rev.get hd⟩
set_option maxHeartbeats 2000000 in
theorem jJ (x y:Int) (hs:(bd x.natAbs).length+(bd y.natAbs).length<274877906944:=by omega):aN prog 119 [(zT x:aK),(zT y:aK)] (.ret [zT (x*y)]):=by
 refine cW func119 ag0 ?_;obtain ⟨la,hla⟩:∃ n,(bd x.natAbs).length=n:=⟨_,rfl⟩
 obtain ⟨lb,hlb⟩:∃ n,(bd y.natAbs).length=n:=⟨_,rfl⟩
 have hra:(bd x.natAbs).reverse.length=la:=by rw [List.length_reverse,hla]
 have hrb:(bd y.natAbs).reverse.length=lb:=by rw [List.length_reverse,hlb]
 have hsx:=AQ x;have hsy:=AQ y;apply vn (aL eT (aH _)) rfl;apply vn (aL eT (aH _)) rfl;apply vn (aB (by omega) (by omega)) rfl;dsimp only [aC,aD];rw [hla,hlb];refine Bt (n:=la+lb) (f:=fun d:Nat=>[aE.int .i64 (d:Int)]) 0 rfl rfl (by omega) rfl (by omega) (by simp only [maxLen];omega) ?_;apply vn (aL eT (aH _)) rfl;apply vn (aI (by omega) (by omega)) rfl;dsimp only [aC,aD];rw [hla];refine bJ {g:Nat×List Nat // GD 32768 (bd x.natAbs).reverse (bd y.natAbs).reverse g.1 g.2} (fun g=>[.one (.int .i64 ((la:Int)-1-g.1.1)), .rows (rB g.1.2.reverse)]) (fun g=>la-g.1.1) ⟨(0,List.replicate (la+lb) 0),by have:=GD.init (B:=32768) (by omega) (bd x.natAbs).reverse (bd y.natAbs).reverse;rw [hra,hrb] at this;exact this⟩ ⟨aK.Sub.of_eq (congrArg (fun q=>aK.one (aE.int .i64 q)) (by show (la:Int)-1=(la:Int)-1-((0:Nat):Int);omega)),aK.Sub.of_eq (by rw [List.reverse_replicate];rfl),trivial⟩ (fun _=>rfl) ?_;rintro ⟨⟨i,os⟩,hO⟩;dsimp only [aC,aD] at hO ⊢;have hil:=hO.le;rw [hra] at hil;apply vn gZ rfl;refine vs _ rfl ?_ ?_<;>intro h8
 ·apply vn (aL eT (aH _)) rfl;obtain ⟨d,hd1,hd2,hd3⟩:=To (n:=x.natAbs) (la:=la) (i:=i) hla.symm;dsimp only [aC,aD];apply vn (aI (by omega) (by omega)) rfl;dsimp only [aC,aD];rw [hlb];refine bJ {g:Nat×Nat×List Nat // BIn 32768 (bd x.natAbs).reverse (bd y.natAbs).reverse i d (val 32768 ((bd x.natAbs).reverse.take i)*val 32768 (bd y.natAbs).reverse) g.1 g.2.1 g.2.2} (fun g=>[.one (.int .i64 g.1.2.1), .one (.int .i64 ((lb:Int)-1-g.1.1)), .rows (rB g.1.2.2.reverse)]) (fun g=>lb-g.1.1) ⟨(0,0,os),hO.inn (by omega)⟩ ⟨aK.Sub.same,aK.Sub.of_eq (congrArg (fun q=>aK.one (aE.int .i64 q)) (by show (lb:Int)-1=(lb:Int)-1-((0:Nat):Int);omega)),aK.Sub.same,trivial⟩ (fun _=>rfl) ?_;rintro ⟨⟨k,c,os2⟩,hI⟩;dsimp only [aC,aD] at hI ⊢;have hkl:=hI.le;have hol:=hI.len;have hc1:=hI.c1;rw [hrb] at hkl;rw [hra,hrb] at hol;apply vn gZ rfl;refine vs _ rfl ?_ ?_<;>intro h13
  ·apply vn (aB (by omega) (by omega)) rfl;apply vn (aB (by omega) (by omega)) rfl;dsimp only [aC,aD];obtain ⟨e,he1,he2,he3⟩:=To (n:=y.natAbs) (la:=lb) (i:=k) hlb.symm;obtain ⟨o,ho2⟩:∃ o,os2[i+k]? = some o:=⟨_,bI (by omega)⟩
   have ho1:os2.reverse[la+lb-1-(i+k)]? = some o:=by
    have:=AL (ds:=os2.reverse) (i:=i+k) (by rw [List.length_reverse];omega);rw [List.reverse_reverse,List.length_reverse,hol] at this;rw [this];exact ho2
   have hoB:=hI.dg.get ho2;have hde:d*e≤32767*32767:=Nat.mul_le_mul (by omega) (by omega);have hst:∀ z,os2.reverse.set (la+lb-1-(i+k)) z=(os2.set (i+k) z).reverse:=fun z=>by rw [←hol];exact Mk (by omega)
   obtain ⟨w,hw⟩:∃ w,c+(d*e+o)=w:=⟨_,rfl⟩
   have hN:=hI.next (z:=w%32768) (c':=w/32768) (by rw [hrb];omega) he2 ho2 (by omega) (by omega) (by omega);refine cI rfl rfl (by omega) (by rw [List.length_reverse];omega) ?_;refine mS rfl rfl (by omega) (by omega) ho1 rfl ?_;apply vn (aG eT (by omega) (by omega) hd1) rfl;apply vn (bD Vm) rfl;apply vn (aG eT (by omega) (by omega) he1) rfl;dsimp only [aC,aD];apply vn (bD Vm) rfl;apply vn (vE (c:=((d*e:Nat):Int)) (by rw [←Int.natCast_mul];exact fI)) rfl;apply vn (aB (by omega) (by omega)) rfl;dsimp only [aC,aD];apply vn (eP (c:=(w:Int)) (by rw [show (o:Int)+((d*e:Nat):Int)+(c:Int)=(w:Int) by omega];exact fI)) rfl;apply vn (aB (by omega) (by omega)) rfl;apply vn (aB (by omega) (by omega)) rfl;apply vn (kZ) rfl;dsimp only [aC,aD];refine cI rfl rfl (by omega) (by rw [List.length_reverse];omega) ?_;refine gL (d':=w%32768) rfl rfl (by omega) (by omega) ho1 rfl ?_;rw [hst];apply vn (xQ) rfl;apply vn (aI (by omega) (by omega)) rfl;dsimp only [aC,aD];exact aY rfl ⟨⟨(k+1,w/32768,os2.set (i+k) (w%32768)),hN⟩,⟨aK.Sub.same,aK.Sub.of_eq (congrArg (fun q=>aK.one (aE.int .i64 q)) (by show (lb:Int)-1-(k:Int)-1=(lb:Int)-1-((k+1:Nat):Int);omega)),aK.Sub.same,trivial⟩,by show lb-(k+1)<lb-k;omega⟩
  have hke:k=lb:=by omega
  subst hke;obtain ⟨o,ho2⟩:∃ o,os2[i+k]? = some o:=⟨_,bI (by omega)⟩
  have ho1:os2.reverse[la+k-1-(i+k)]? = some o:=by
   have:=AL (ds:=os2.reverse) (i:=i+k) (by rw [List.length_reverse];omega);rw [List.reverse_reverse,List.length_reverse,hol] at this;rw [this];exact ho2
  have hst:∀ z,os2.reverse.set (la+k-1-(i+k)) z=(os2.set (i+k) z).reverse:=fun z=>by rw [←hol];exact Mk (by omega)
  have hN:GD 32768 (bd x.natAbs).reverse (bd y.natAbs).reverse (i+1) (os2.set (i+k) c):=by
   have:=hI;rw [←hrb] at this ⊢;exact this.out hd2
  refine cI rfl rfl (by omega) (by rw [List.length_reverse];omega) ?_;refine gL (d':=c) rfl rfl (by omega) (by omega) ho1 rfl ?_;rw [hst];apply vn (aI (by omega) (by omega)) rfl;dsimp only [aC,aD];exact aY rfl ⟨⟨(i+1,os2.set (i+k) c),hN⟩,⟨aK.Sub.of_eq (congrArg (fun q=>aK.one (aE.int .i64 q)) (by show (la:Int)-1-(i:Int)-1=(la:Int)-1-((i+1:Nat):Int);omega)),aK.Sub.same,trivial⟩,by show la-(i+1)<la-i;omega⟩
 have hie:i=la:=by omega
 subst hie
 have hf:val 32768 os=x.natAbs*y.natAbs:=by
  have:=hO;rw [←hra] at this;have:=this.fin;rw [val_rev,val_rev] at this;exact this
 have hol:=hO.len;rw [hra,hrb] at hol;have hmul:x.sign*y.sign=(x*y).sign:=(Int.sign_mul x y).symm;have hsb:=AQ (x*y);apply vn (vE (c:=(x*y).sign) (by rw [hmul];exact fI)) rfl;apply aA (fQ (x*y).sign (x*y) os.reverse hO.dg.rev (by rw [bv,List.reverse_reverse,hf,Int.natAbs_mul]) (fun _=>rfl) (by rw [List.length_reverse];omega)) rfl;exact aJ rfl
open Go Go.Proofs Tryz Ord
def au4:Tr:=.back 0 [lV 10 0,lV 11 0]
def bg9:Tr:=.split (.u 5 0) (bB .mul 3 14 32768 3 0 3 (bB .sub 3 17 1 1 0 3 (cE .sub 3 18 19 7 0 4 0 3 (aU 248 [(W 0 0),(W 8 0)] [none] [16,20] [47,3] 3 true (cE .add 3 15 21 6 0 9 0 3 (bB .add 3 12 1 4 0 3 au4)))))) (.ret [(W 3 0)])
def bq1:Tr:=.loop 0 [lK 0,lK 0] (cE .lss 3 9 10 4 0 2 0 4 bg9)
theorem ZH:aM prog f260 (fun _=>none) [.v none, .v none, .v none]=bq1:=by kernel_rfl
def aK7:Tr:=.loop 0 [lV 14 0,lV 10 0] (aU 227 [(W 15 0),(W 1 0)] [none] [46,47] [47,47] 3 true (bB .geq 3 48 0 17 0 4 (.split (.u 18 0) (.need (.call 226 [(W 15 0),(W 1 0),(WK (-1))] [none]) (.call ⟨.value (.func 226),#[(tT 50),(tT 51),(.const (I3 (-1)))],#[47,47,3]⟩) 47 true (bB .add 3 53 1 16 0 3 (.back 0 [lV 19 0,lV 20 0]))) (.ret [(W 16 0),(W 15 0)]))))
def az7:Tr:=.loop 0 [lV 0 0,lV 10 0] (aU 227 [(W 12 0),(W 1 0)] [none] [46,47] [47,47] 3 true (bB .geq 3 48 0 14 0 4 (.split (.u 15 0) (.need (.call 226 [(W 12 0),(W 1 0),(WK (-1))] [none]) (.call ⟨.value (.func 226),#[(tT 50),(tT 51),(.const (I3 (-1)))],#[47,47,3]⟩) 47 true (bB .add 3 53 1 13 0 3 (.back 0 [lV 16 0,lV 17 0]))) (.ret [(W 13 0),(W 12 0)]))))
def VB:Tr:=bB .gtr 3 36 0 10 0 4 (.split (.u 11 0) (aU 114 [(W 10 0)] [(some 2)] [39] [2] 49 false (aU 119 [(G2 12),(.agg [(tE (.int .i64 1)),(U 1 0)])] [(some 2)] [40,42] [49,49] 49 true (.need (.call 226 [(W 0 0),(W 13 1),(WK (-1))] [none]) (.call ⟨.value (.func 226),#[(tT 38),(tT 44),(.const (I3 (-1)))],#[47,47,3]⟩) 47 true aK7))) az7)
def bf5:Tr:=bB .leq 3 14 3 2 0 4 (.split (.u 5 0) (bB .add 3 17 1 2 0 3 (bB .add 3 19 1 2 0 3 (aU 260 [(W 0 0),(W 6 0),(W 7 0)] [none] [16,18,20] [47,3,3] 3 false (aU 260 [(W 1 0),(W 2 0),(W 2 0)] [none] [22,23,24] [47,3,3] 3 true (cE .quo 3 21 25 8 0 9 0 3 VB))))) (bB .add 3 28 1 2 0 3 (.need (.call 260 [(W 0 0),(W 6 0),(WK 4)] [none]) (.call ⟨.value (.func 260),#[(tT 27),(tT 29),(.const (I3 4))],#[47,3,3]⟩) 3 false (.need (.call 260 [(W 1 0),(W 2 0),(WK 3)] [none]) (.call ⟨.value (.func 260),#[(tT 31),(tT 32),(.const (I3 3))],#[47,3,3]⟩) 3 false (bB .add 3 33 1 8 0 3 (cE .quo 3 30 34 7 0 9 0 3 VB))))))
def aB9:Tr:=.loop 0 [lV 8 0,lK 0] (aU 227 [(W 9 0),(W 1 0)] [none] [46,47] [47,47] 3 true (bB .geq 3 48 0 11 0 4 (.split (.u 12 0) (.need (.call 226 [(W 9 0),(W 1 0),(WK (-1))] [none]) (.call ⟨.value (.func 226),#[(tT 50),(tT 51),(.const (I3 (-1)))],#[47,47,3]⟩) 47 true (bB .add 3 53 1 10 0 3 (.back 0 [lV 13 0,lV 14 0]))) (.ret [(W 10 0),(W 9 0)]))))
def aX0:Tr:=.split (.u 5 0) (aU 114 [(WK 0)] [(some 2)] [39] [2] 49 false (aU 119 [(G2 6),(.agg [(tE (.int .i64 1)),(U 1 0)])] [(some 2)] [40,42] [49,49] 49 true (.need (.call 226 [(W 0 0),(W 7 1),(WK (-1))] [none]) (.call ⟨.value (.func 226),#[(tT 38),(tT 44),(.const (I3 (-1)))],#[47,47,3]⟩) 47 true aB9))) (.loop 0 [lV 0 0,lK 0] (aU 227 [(W 6 0),(W 1 0)] [none] [46,47] [47,47] 3 true (bB .geq 3 48 0 8 0 4 (.split (.u 9 0) (.need (.call 226 [(W 6 0),(W 1 0),(WK (-1))] [none]) (.call ⟨.value (.func 226),#[(tT 50),(tT 51),(.const (I3 (-1)))],#[47,47,3]⟩) 47 true (bB .add 3 53 1 7 0 3 au4)) (.ret [(W 7 0),(W 6 0)])))))
def bo7:Tr:=cL 1 0 8 47 (cL 0 0 10 47 (cE .geq 3 11 12 3 0 2 0 4 (.split (.u 4 0) bf5 (.need (.prim [(WK 0),(WK 0)] none) (.binOp .gtr 3 (tT 36) (.const (I3 0)) 3) 4 false aX0))))
theorem Wv:aM prog f241 (fun _=>none) [.v none, .v none]=bo7:=by kernel_rfl
def aL6:Tr:=.need (.app 1 8 (some 17) none (some 20)) (.call ⟨.builtin .append,#[(tT 33),(tT 38)],#[47,47]⟩) 47 false (aU 229 [(.one (.c (.sr 1 21)))] [none] [39] [47] 47 true (aU 241 [(W 22 0),(W 1 0)] [none,none] [42,43] [47,47] 271 false (.need (.lit 1 [[(.u 23 0)]]) (.buildSlice 47 1 #[(0,(tT 48))]) 47 false (.need (.app 1 8 (some 14) none (some 25)) (.call ⟨.builtin .append,#[(tT 47),(tT 49)],#[47,47]⟩) 47 false (bB .add 3 30 1 13 0 3 (.back 0 [lV 24 0,lV 27 0, .row 26]))))))
def aM3:Tr:=cL 0 0 27 47 (cE .lss 3 26 28 13 0 15 0 4 (.split (.u 16 0) (.need (.app 1 8 none (some (.u 12 0)) none) (.call ⟨.builtin .append,#[(.const (.slice none 0 0)),(tT 32)],#[47,47]⟩) 47 false (dN 0 0 13 0 47 34 35 (dA 18 0 none 3 36 (.need (.lit 1 [[(.u 19 0)]]) (.buildSlice 47 1 #[(0,(tT 37))]) 47 false aL6)))) (aU 229 [(.one (.c (.sr 1 14)))] [none] [51] [47] 47 false (.ret [(W 17 0),(W 12 0)]))))
def bk0:Tr:=bB .sub 3 18 1 5 0 3 (.need (.prim [(W 0 0),(W 6 0)] none) (.slice 47 (tT 16) none (some (tT 19)) none) 47 false (.need (.app 1 8 none (some (.u 7 0)) none) (.call ⟨.builtin .append,#[(.const (.slice none 0 0)),(tT 20)],#[47,47]⟩) 47 false (aU 229 [(.one (.c (.sr 1 8)))] [none] [21] [47] 47 true (cL 1 0 23 47 (bB .sub 3 24 1 10 0 3 (.loop 0 [lV 9 0,lV 11 0, .nilrow] aM3))))))
def br5:Tr:=cL 0 0 10 47 (cL 1 0 12 47 (cE .lss 3 11 13 2 0 3 0 4 (.split (.u 4 0) (.ret [(.one (.c (.k (.slice none 0 0)))),(W 0 0)]) (cL 1 0 17 47 bk0))))
theorem aq0:aM prog f219 (fun _=>none) [.v none, .v none]=br5:=by kernel_rfl
def bi2:Tr:=.split (.u 4 0) (bB .mul 3 11 32768 1 0 3 (dN 0 0 2 0 47 13 14 (dA 6 0 none 3 15 (cE .add 3 12 16 5 0 7 0 3 (bB .add 3 9 1 2 0 3 (.back 0 [lV 8 0,lV 9 0])))))) Rw
def bt0:Tr:=.loop 0 [lK 0,lK 0] (cL 0 0 6 47 (cE .lss 3 5 7 2 0 3 0 4 bi2))
theorem Vp:aM prog f225 (fun _=>none) [.v none]=bt0:=by kernel_rfl
def aJ2:Tr:=aU 225 [(W 2 0)] [none] [26] [47] 3 false (aU 225 [(W 3 0)] [none] [28] [47] 3 true (.loop 1 [lV 12 0,lV 13 0] (bB .neq 3 30 0 15 0 4 (.split (.u 16 0) (cE .rem 3 33 34 14 0 15 0 3 (.back 1 [lV 15 0,lV 17 0])) (aU 114 [(W 14 0)] [(some 2)] [36] [2] 49 true (.ret [(G2 17)]))))))
def bl0:Tr:=bB .leq 3 19 4 8 0 4 (.split (.u 9 0) (cL 3 0 22 47 (bB .leq 3 23 4 10 0 4 (.split (.u 11 0) aJ2 (aU 219 [(W 2 0),(W 3 0)] [none,none] [39,40] [47,47] 247 false (.back 0 [lV 3 0,lV 13 0,lV 4 0,lV 5 0]))))) (aU 219 [(W 2 0),(W 3 0)] [none,none] [39,40] [47,47] 247 false (.back 0 [lV 3 0,lV 11 0,lV 4 0,lV 5 0])))
def bp1:Tr:=.loop 0 [lV 0 1,lV 1 1,lK 0,lN] (cL 3 0 15 47 (bB .gtr 3 16 0 6 0 4 (.split (.u 7 0) (cL 2 0 18 47 bl0) (.need (.call 189 [(WK 1),(W 2 0)] [(some 2)]) (.call ⟨.value (.func 189),#[(.const (I3 1)),(tT 46)],#[3,47]⟩) 49 true Rr))))
theorem ah0:aM prog f218 (fun _=>none) [.v (some 2), .v (some 2)]=bp1:=by kernel_rfl
theorem Qa {m long i:Nat} (h:i<long:=by omega):m/32768^(long-i)*32768+m/32768^(long-1-i)%32768=m/32768^(long-(i+1)):=by
 have e:m/32768^(long-i)=m/32768^(long-(i+1))/32768:=by
  rw [Nat.div_div_eq_div_mul,←Nat.pow_succ];congr 2;omega
 rw [e,show long-1-i=long-(i+1) by omega];have:=Nat.div_add_mod (m/32768^(long-(i+1))) 32768;omega
theorem vB {m long i:Nat} (h:i≤long) (hm:m<32768^long):m/32768^(long-i)<32768^i:=by
 rw [Nat.div_lt_iff_lt_mul (Nat.pow_pos (by omega)),←Nat.pow_add,show i+(long-i)=long by omega];exact hm
theorem RA {i:Nat} (h:i≤4:=by omega):32768^i≤1152921504606846976:=by
 have:=Nat.pow_le_pow_right (n:=32768) (by omega) h;rw [show (32768:Nat)^4=1152921504606846976 by decide] at this;exact this
theorem vQ (m long k:Nat) (hm:m<32768^long) (hk:k≤long:=by omega) (hk4:k≤4:=by omega) (hl:long<1099511627776:=by omega) (hs:(bd m).length<1099511627776:=by omega):aN prog 260 [(.one (bT m):aK),(.one (.int .i64 long):aK),(.one (.int .i64 k):aK)] (.ret [.one (.int .i64 ((m/32768^(long-k):Nat):Int))]):=by
 refine cW func260 ZH ?_;refine bJ {i:Nat // i≤k} (fun g=>[.one (.int .i64 ((m/32768^(long-g.1):Nat):Int)), .one (.int .i64 g.1)]) (fun g=>k-g.1) ⟨0,cM _⟩ ⟨aK.Sub.of_eq (congrArg (fun q:Nat=>aK.one (aE.int .i64 (q:Int))) (by show 0=m/32768^long;rw [Nat.div_eq_of_lt hm])),aK.Sub.same,trivial⟩ (fun _=>rfl) ?_;rintro ⟨i,hi⟩;dsimp only [aC,aD] at hi ⊢;apply vn bF rfl;refine vs _ rfl ?_ ?_<;>intro h2
 ·have hx:=vB (m:=m) (i:=i) (long:=long) (by omega) hm;have hp:=RA (i:=i);have hstep:=Qa (m:=m) (long:=long) (i:=i);have hlt:=vB (m:=m) (i:=i+1) (long:=long) (by omega) hm;have hp2:=RA (i:=i+1);generalize m/32768^(long-i)=x at *;generalize hy:m/32768^(long-(i+1))=y at *;apply vn (yI) rfl;apply vn (aI (by omega) (by omega)) rfl;dsimp only [aC,aD];apply vn (mZ (c:=((long-1-i:Nat):Int)) (by rw [show ((long:Int)-1-(i:Int))=((long-1-i:Nat):Int) by omega];exact fI)) rfl;apply aA (BH m (long-1-i) hs) rfl;generalize m/32768^(long-1-i)%32768=d at *;dsimp only [aC,aD];apply vn (eP (c:=(y:Int)) (by rw [show (x:Int)*32768+(d:Int)=(y:Int) by omega];exact fI)) rfl;apply vn (aB (by omega) (by omega)) rfl;dsimp only [aC,aD];exact aY rfl ⟨⟨i+1,by omega⟩,⟨aK.Sub.of_eq (congrArg (fun q:Nat=>aK.one (aE.int .i64 (q:Int))) hy.symm),aK.Sub.same,trivial⟩,by show k-(i+1)<k-i;omega⟩
 rw [show k=i by omega];exact aJ rfl
theorem Rb {d:Nat} (h:0<d):zT (d:Int) = .agg [.int .i64 1,bT d]:=by
 rw [zT,zC,Int.sign_eq_one_of_pos (by omega)];rfl
theorem YG {r d m:Nat}:r/32768^m/(d/32768^m+1)*d≤r:=by
 have hp:0<32768^m:=Nat.pow_pos (by omega)
 have h1:d≤(d/32768^m+1)*32768^m:=by
  rw [Nat.mul_comm];exact Nat.le_of_lt (Nat.lt_mul_div_succ d hp)
 calc r/32768^m/(d/32768^m+1)*d≤r/32768^m/(d/32768^m+1)*((d/32768^m+1)*32768^m):=Nat.mul_le_mul_left _ h1
  _=r/32768^m/(d/32768^m+1)*(d/32768^m+1)*32768^m:=(Nat.mul_assoc _ _ _).symm
  _≤r/32768^m*32768^m:=Nat.mul_le_mul_right _ (Nat.div_mul_le_self _ _)
  _≤r:=Nat.div_mul_le_self _ _
set_option maxHeartbeats 2000000 in
theorem Zz (r d:Nat) (hd:0<d) (hr:r<d*32768) (hs:(bd d).length<34359738368:=by omega):aN prog 241 [(.one (bT r):aK),(.one (bT d):aK)] (.ret [.one (.int .i64 ((r/d:Nat):Int)), .one (bT (r%d))]):=by
 refine cW func241 Wv ?_;have hdl:=Cz d
 have hrl:r<32768^((bd d).length+1):=by
  rw [Nat.pow_succ];exact Nat.lt_trans hr (Nat.mul_lt_mul_of_pos_right hdl (by omega))
 have hrs:=jA hrl;have hle:∀ q,q≤r→(bd q).length≤(bd d).length+1:=fun q hq=>Nat.le_trans (eY hq) hrs
 have hdn:0<(bd d).length:=by
  rcases Nat.eq_zero_or_pos (bd d).length with h | h
  ·have:=Dl.1 (List.eq_nil_of_length_eq_zero h);omega
  ·exact h
 have hqB:r/d<32768:=by rw [Nat.div_lt_iff_lt_mul hd,Nat.mul_comm];exact hr
 have hkd:∀ k,k*d≤r→k<32768:=fun k hk=>by
  have:k≤r/d:=by rw [Nat.le_div_iff_mul_le hd];exact hk
  omega
 have hfin:∀ r' k,r'+k*d=r→r'<d→k=r/d∧r'=r%d:=fun r' k h1 h2=>xX (by rw [←h1,Nat.mul_comm]) h2
 have hah:∀ r':Nat,(0≤eO (r':Int) (d:Int))↔d≤r':=fun r'=>by
  have:=qL (a:=(r':Int)) (b:=(d:Int));omega
 apply vn (aL eT (aH _)) rfl;apply vn (aL eT (aH _)) rfl;apply vn gZ rfl;refine vs _ rfl ?_ ?_<;>intro h3
 ·apply vn iZ rfl;dsimp only [aC,aD];refine vs _ rfl ?_ ?_<;>intro h5
  ·apply vn (aB (by omega) (by omega)) rfl;apply vn (aB (by omega) (by omega)) rfl;apply aA (vQ r ((bd d).length+1) ((bd d).length+1) hrl (bA _)) rfl;rw [Nat.sub_self,Nat.pow_zero,Nat.div_one];apply aA (vQ d (bd d).length (bd d).length hdl (bA _)) rfl;rw [Nat.sub_self,Nat.pow_zero,Nat.div_one];dsimp only [aC,aD];obtain ⟨k,hk⟩:∃ k,r/d=k:=⟨_,rfl⟩
   have hk1:k*d≤r:=by rw [←hk];exact Nat.div_mul_le_self _ _
   have hk2:=hkd k hk1;apply vn (oE (c:=(k:Int)) (by omega) (by rw [Int.tdiv_eq_ediv_of_nonneg (nA _),←Int.natCast_ediv,hk];exact fI)) rfl;apply vn eF rfl;refine vs _ rfl ?_ ?_<;>intro h12
   ·have hm:=jJ (k:Int) (d:Int) (by
     rw [Int.natAbs_natCast,Int.natAbs_natCast];have:(bd k).length≤1:=jA (by omega);omega)
    rw [Rb hd,show (k:Int)*(d:Int)=((k*d:Nat):Int) by rw [Int.natCast_mul]] at hm;apply aA (mP k) rfl;apply aA hm rfl;dsimp only [aC,aD];apply aA (kE r (k*d) (r-k*d) (-1) (.inr rfl) (by have:=hle _ hk1;omega)) rfl;dsimp only [aC,aD];refine bJ {g:Nat×Nat // g.1+g.2*d=r} (fun g=>[.one (bT g.1.1), .one (.int .i64 g.1.2)]) (fun g=>g.1.1) ⟨(r-k*d,k),by show r-k*d+k*d=r;omega⟩ aO.rfl (fun _=>rfl) ?_;rintro ⟨⟨r',k'⟩,hg⟩;dsimp only [aC,aD] at hg ⊢;have hk3:=hkd k' (by omega);have hr3:=hle r' (by omega);apply aA (oB r' d) rfl;apply vn gZ rfl;refine vs _ rfl ?_ ?_<;>intro h19
    ·have hdr:d≤r':=(hah r').1 (by assumption);apply aA (kE r' d (r'-d) (-1) (.inr rfl)) rfl;apply vn (aB (by omega) (by omega)) rfl;dsimp only [aC,aD];exact aY rfl ⟨⟨(r'-d,k'+1),by show r'-d+(k'+1)*d=r;rw [Nat.add_mul];omega⟩,aO.rfl,by show r'-d<r';omega⟩
    have hdr:r'<d:=by
     rcases Nat.lt_or_ge r' d with h | h
     ·exact h
     ·exact absurd ((hah r').2 h) (by assumption)
    obtain ⟨e1,e2⟩:=hfin r' k' hg hdr;rw [←e1,←e2];exact aJ rfl
   refine bJ {g:Nat×Nat // g.1+g.2*d=r} (fun g=>[.one (bT g.1.1), .one (.int .i64 g.1.2)]) (fun g=>g.1.1) ⟨(r,0),by omega⟩ ⟨aK.Sub.same,aK.Sub.of_eq (congrArg (fun q:Nat=>aK.one (aE.int .i64 (q:Int))) (by show k=0;omega)),trivial⟩ (fun _=>rfl) ?_;rintro ⟨⟨r',k'⟩,hg⟩;dsimp only [aC,aD] at hg ⊢;have hk3:=hkd k' (by omega);have hr3:=hle r' (by omega);apply aA (oB r' d) rfl;apply vn gZ rfl;refine vs _ rfl ?_ ?_<;>intro h27
   ·have hdr:d≤r':=(hah r').1 (by assumption);apply aA (kE r' d (r'-d) (-1) (.inr rfl)) rfl;apply vn (aB (by omega) (by omega)) rfl;dsimp only [aC,aD];exact aY rfl ⟨⟨(r'-d,k'+1),by show r'-d+(k'+1)*d=r;rw [Nat.add_mul];omega⟩,aO.rfl,by show r'-d<r';omega⟩
   have hdr:r'<d:=by
    rcases Nat.lt_or_ge r' d with h | h
    ·exact h
    ·exact absurd ((hah r').2 h) (by assumption)
   obtain ⟨e1,e2⟩:=hfin r' k' hg hdr;rw [←e1,←e2];exact aJ rfl
  apply vn (aB (by omega) (by omega)) rfl;apply aA (vQ r ((bd d).length+1) 4 hrl) rfl;apply aA (vQ d (bd d).length 3 hdl) rfl;rw [show (bd d).length+1-4=(bd d).length-3 by omega];have hd3:=vB (m:=d) (long:=(bd d).length) (i:=3) (by omega) hdl;have hr4:=vB (m:=r) (long:=(bd d).length+1) (i:=4) (by omega) hrl;rw [show (bd d).length+1-4=(bd d).length-3 by omega] at hr4;have hp3:=RA (i:=3);have hp4:=RA (i:=4);have hk1:=YG (r:=r) (d:=d) (m:=(bd d).length-3);generalize r/32768^((bd d).length-3)=rt at *;generalize d/32768^((bd d).length-3)=dt at *;obtain ⟨k,hk⟩:∃ k,rt/(dt+1)=k:=⟨_,rfl⟩
  rw [hk] at hk1;have hk2:=hkd k hk1;apply vn (aB (by omega) (by omega)) rfl;dsimp only [aC,aD];apply vn (oE (c:=(k:Int)) (by omega) (by rw [Int.tdiv_eq_ediv_of_nonneg (nA _),show ((dt:Int)+1)=((dt+1:Nat):Int) by omega,←Int.natCast_ediv,hk];exact fI)) rfl;apply vn eF rfl;refine vs _ rfl ?_ ?_<;>intro h38
  ·have hm:=jJ (k:Int) (d:Int) (by
    rw [Int.natAbs_natCast,Int.natAbs_natCast];have:(bd k).length≤1:=jA (by omega);omega)
   rw [Rb hd,show (k:Int)*(d:Int)=((k*d:Nat):Int) by rw [Int.natCast_mul]] at hm;apply aA (mP k) rfl;apply aA hm rfl;dsimp only [aC,aD];apply aA (kE r (k*d) (r-k*d) (-1) (.inr rfl) (by have:=hle _ hk1;omega)) rfl;dsimp only [aC,aD];refine bJ {g:Nat×Nat // g.1+g.2*d=r} (fun g=>[.one (bT g.1.1), .one (.int .i64 g.1.2)]) (fun g=>g.1.1) ⟨(r-k*d,k),by show r-k*d+k*d=r;omega⟩ aO.rfl (fun _=>rfl) ?_;rintro ⟨⟨r',k'⟩,hg⟩;dsimp only [aC,aD] at hg ⊢;have hk3:=hkd k' (by omega);have hr3:=hle r' (by omega);apply aA (oB r' d) rfl;apply vn gZ rfl;refine vs _ rfl ?_ ?_<;>intro h45
   ·have hdr:d≤r':=(hah r').1 (by assumption);apply aA (kE r' d (r'-d) (-1) (.inr rfl)) rfl;apply vn (aB (by omega) (by omega)) rfl;dsimp only [aC,aD];exact aY rfl ⟨⟨(r'-d,k'+1),by show r'-d+(k'+1)*d=r;rw [Nat.add_mul];omega⟩,aO.rfl,by show r'-d<r';omega⟩
   have hdr:r'<d:=by
    rcases Nat.lt_or_ge r' d with h | h
    ·exact h
    ·exact absurd ((hah r').2 h) (by assumption)
   obtain ⟨e1,e2⟩:=hfin r' k' hg hdr;rw [←e1,←e2];exact aJ rfl
  refine bJ {g:Nat×Nat // g.1+g.2*d=r} (fun g=>[.one (bT g.1.1), .one (.int .i64 g.1.2)]) (fun g=>g.1.1) ⟨(r,0),by omega⟩ ⟨aK.Sub.same,aK.Sub.of_eq (congrArg (fun q:Nat=>aK.one (aE.int .i64 (q:Int))) (by show k=0;omega)),trivial⟩ (fun _=>rfl) ?_;rintro ⟨⟨r',k'⟩,hg⟩;dsimp only [aC,aD] at hg ⊢;have hk3:=hkd k' (by omega);have hr3:=hle r' (by omega);apply aA (oB r' d) rfl;apply vn gZ rfl;refine vs _ rfl ?_ ?_<;>intro h53
  ·have hdr:d≤r':=(hah r').1 (by assumption);apply aA (kE r' d (r'-d) (-1) (.inr rfl)) rfl;apply vn (aB (by omega) (by omega)) rfl;dsimp only [aC,aD];exact aY rfl ⟨⟨(r'-d,k'+1),by show r'-d+(k'+1)*d=r;rw [Nat.add_mul];omega⟩,aO.rfl,by show r'-d<r';omega⟩
  have hdr:r'<d:=by
   rcases Nat.lt_or_ge r' d with h | h
   ·exact h
   ·exact absurd ((hah r').2 h) (by assumption)
  obtain ⟨e1,e2⟩:=hfin r' k' hg hdr;rw [←e1,←e2];exact aJ rfl
 apply vn eF rfl;refine vs _ rfl ?_ ?_<;>intro h59
 ·exfalso;omega
 refine bJ {g:Nat×Nat // g.1+g.2*d=r} (fun g=>[.one (bT g.1.1), .one (.int .i64 g.1.2)]) (fun g=>g.1.1) ⟨(r,0),by omega⟩ aO.rfl (fun _=>rfl) ?_;rintro ⟨⟨r',k'⟩,hg⟩;dsimp only [aC,aD] at hg ⊢;have hk3:=hkd k' (by omega);have hr3:=hle r' (by omega);apply aA (oB r' d) rfl;apply vn gZ rfl;refine vs _ rfl ?_ ?_<;>intro h74
 ·have hdr:d≤r':=(hah r').1 (by assumption);apply aA (kE r' d (r'-d) (-1) (.inr rfl)) rfl;apply vn (aB (by omega) (by omega)) rfl;dsimp only [aC,aD];exact aY rfl ⟨⟨(r'-d,k'+1),by show r'-d+(k'+1)*d=r;rw [Nat.add_mul];omega⟩,aO.rfl,by show r'-d<r';omega⟩
 have hdr:r'<d:=by
  rcases Nat.lt_or_ge r' d with h | h
  ·exact h
  ·exact absurd ((hah r').2 h) (by assumption)
 obtain ⟨e1,e2⟩:=hfin r' k' hg hdr;rw [←e1,←e2];exact aJ rfl
set_option maxHeartbeats 1000000 in
theorem jN (a d:Nat) (hd:0<d:=by omega) (hs:(bd a).length+(bd d).length<34359738368:=by omega):aN prog 219 [(.one (bT a):aK),(.one (bT d):aK)] (.ret [.one (bT (a/d)), .one (bT (a%d))]):=by
 refine cW func219 aq0 ?_
 have hdn:0<(bd d).length:=by
  rcases Nat.eq_zero_or_pos (bd d).length with h | h
  ·have:=Dl.1 (List.eq_nil_of_length_eq_zero h);omega
  ·exact h
 apply vn (aL eT (aH _)) rfl;apply vn (aL eT (aH _)) rfl;apply vn bF rfl;refine vs _ rfl ?_ ?_<;>intro h3
 ·have had:=tW (a:=a) (b:=d);refine eM ⟨ZT (Nat.div_eq_of_lt had),?_,trivial⟩;rw [Nat.mod_eq_of_lt had];exact aE.Sub.same
 apply vn (aL eT (aH _)) rfl;dsimp only [aC,aD];apply vn (aI (by omega) (by omega)) rfl;apply vn (aq5 (m:=(bd d).length-1)) rfl;refine wF (ts:=[]) (us:=rB ((bd a).take ((bd d).length-1))) (vs:=rB ((bd a).take ((bd d).length-1))) rfl (.inr aE.Sub.same) rfl (by simp;omega) (by simp [maxLen];omega) ?_;apply aA (qV ((bd a).take ((bd d).length-1)) ((hC a).take _) (by rw [List.length_take];omega)) rfl;dsimp only [aC,aD];apply vn (aL eT (aH _)) rfl;apply vn (aI (by omega) (by omega)) rfl;dsimp only [aC,aD]
 refine bJ {g:Nat×Nat×List Nat // (bd d).length-1≤g.1∧g.1≤(bd a).length∧bv ((bd a).take g.1)=g.2.1+d*bv g.2.2∧g.2.1<d∧DB 32768 g.2.2∧g.2.2.length≤g.1} (fun g=>[.one (bT g.1.2.1), .one (.int .i64 g.1.1), .rows (rB g.1.2.2)]) (fun g=>(bd a).length-g.1.1) ⟨((bd d).length-1,bv ((bd a).take ((bd d).length-1)),[]),bA _,by show (bd d).length-1≤_;omega,by simp [bv,val],by
  have h1:=PQ ((hC a).take ((bd d).length-1));rw [List.length_take,Nat.min_eq_left (by omega)] at h1;exact Nat.lt_of_lt_of_le h1 (bn3 (by omega)),Wl,cM _⟩ ⟨aK.Sub.same,aK.Sub.of_eq (congrArg (fun q=>aK.one (aE.int .i64 q)) (by show ((bd d).length:Int)-1=(((bd d).length-1:Nat):Int);omega)),aK.Sub.same,trivial⟩ (fun _=>rfl) ?_
 rintro ⟨⟨i,R,qs⟩,hi1,hi2,hv,hR,hq,hql⟩;dsimp only [aC,aD] at hi1 hi2 hv hR hq hql ⊢;have hRl:=eY (Nat.le_of_lt hR);apply vn (aL eT (aH _)) rfl;apply vn bF rfl;refine vs _ rfl ?_ ?_<;>intro h15
 ·obtain ⟨x,hx⟩:∃ x,(bd a)[i]? = some x:=⟨_,bI (by omega)⟩
  have hxB:=(hC a).get hx;refine wF (ts:=[]) (us:=rB (bd R)) (vs:=rB (bd R)) rfl (.inr aE.Sub.same) rfl (by simp;omega) (by simp [maxLen];omega) ?_;apply vn (aG eT (by omega) (by omega) hx) rfl;dsimp only [aC,aD];apply vn (bD Vm) rfl;apply dJ (us:=rB [x]) rfl;refine wF (ts:=rB (bd R)) (us:=rB [x]) (vs:=rB (bd R ++ [x])) rfl rfl (by rw [rB,rB,rB,←List.map_append]) (by simp;omega) (by simp [maxLen];omega) ?_;dsimp only [aC,aD];have hdb:DB 32768 (bd R ++ [x]):=(hC R).append (fun y hy=>by simp at hy;omega);apply aA (qV (bd R ++ [x]) hdb (by simp;omega)) rfl;rw [Bb,fK]
  apply aA (Zz (R*32768+x) d hd (by
   have:(R+1)*32768≤d*32768:=Nat.mul_le_mul_right _ hR;omega)) rfl
  have hmd:=Nat.mod_add_div (R*32768+x) d
  have hqB:(R*32768+x)/d<32768:=by
   rw [Nat.div_lt_iff_lt_mul hd,Nat.mul_comm];have:(R+1)*32768≤d*32768:=Nat.mul_le_mul_right _ hR;omega
  have hRm:=Nat.mod_lt (R*32768+x) hd;generalize (R*32768+x)/d=k at *;generalize (R*32768+x)%d=R' at *;apply dJ (us:=rB [k]) rfl;refine wF (ts:=rB qs) (us:=rB [k]) (vs:=rB (qs ++ [k])) rfl rfl (by rw [rB,rB,rB,←List.map_append]) (by simp;omega) (by simp [maxLen];omega) ?_;dsimp only [aC,aD];apply vn (aB (by omega) (by omega)) rfl;dsimp only [aC,aD]
  exact aY rfl ⟨⟨(i+1,R',qs ++ [k]),by show _≤i+1;omega,by show i+1≤_;omega,by
   show bv ((bd a).take (i+1))=R'+d*bv (qs ++ [k]);rw [take_succ hx,Bb,Bb,hv,Nat.mul_add,Nat.add_mul,←Nat.mul_assoc];omega,hRm,hq.append (fun y hy=>by simp at hy;omega),by show (qs ++ [k]).length≤i+1;simp;omega⟩,aO.rfl,by show (bd a).length-(i+1)<(bd a).length-i;omega⟩
 have hie:i=(bd a).length:=by omega
 subst hie;rw [List.take_length,fK] at hv;obtain ⟨e1,e2⟩:=xX hv hR;apply aA (qV qs hq) rfl;dsimp only [aC,aD];rw [←e1,←e2];exact aJ rfl
theorem Cd (m:Nat) (hm:(bd m).length≤4:=by omega):aN prog 225 [(.one (bT m):aK)] (.ret [.one (.int .i64 m)]):=by
 refine cW func225 Vp ?_;refine bJ {i:Nat // i≤(bd m).length} (fun g=>[.one (.int .i64 (bv ((bd m).take g.1):Nat)), .one (.int .i64 g.1)]) (fun g=>(bd m).length-g.1) ⟨0,cM _⟩ aO.rfl (fun _=>rfl) ?_;rintro ⟨i,hi⟩;dsimp only [aC,aD] at hi ⊢;apply vn (aL eT (aH _)) rfl;apply vn bF rfl;refine vs _ rfl ?_ ?_<;>intro h3
 ·obtain ⟨x,hx⟩:∃ x,(bd m)[i]? = some x:=⟨_,bI (by omega)⟩
  have hxB:=(hC m).get hx;have hb:=PQ ((hC m).take i);rw [List.length_take,Nat.min_eq_left hi] at hb;have hp:=RA (i:=i);have hb2:=PQ ((hC m).take (i+1));rw [List.length_take,Nat.min_eq_left (by omega)] at hb2;have hp2:=RA (i:=i+1);have hsn:bv ((bd m).take (i+1))=bv ((bd m).take i)*32768+x:=by rw [take_succ hx,Bb]
  generalize bv ((bd m).take i)=y at *;apply vn (yI) rfl;apply vn (aG eT (by omega) (by omega) hx) rfl;dsimp only [aC,aD];apply vn (bD Vm) rfl;apply vn (aB (by omega) (by omega)) rfl;apply vn (aB (by omega) (by omega)) rfl;dsimp only [aC,aD];exact aY rfl ⟨⟨i+1,by omega⟩,⟨aK.Sub.of_eq (congrArg (fun q:Int=>aK.one (aE.int .i64 q)) (by show (y:Int)*32768+x=((bv ((bd m).take (i+1)):Nat):Int);omega)),aK.Sub.same,trivial⟩,by show (bd m).length-(i+1)<(bd m).length-i;omega⟩
 rw [show i=(bd m).length by omega,List.take_length,fK];exact aJ rfl
set_option maxHeartbeats 1000000 in
theorem RW (x y:Int) (hs:(bd x.natAbs).length<17179869184:=by omega) (hs2:(bd y.natAbs).length<17179869184:=by omega):aN prog 218 [(zT x:aK),(zT y:aK)] (.ret [zT ((Nat.gcd x.natAbs y.natAbs:Nat):Int)]):=by
 refine cW func218 ah0 ?_;refine bJ {p:Nat×Nat // Nat.gcd p.1 p.2=Nat.gcd x.natAbs y.natAbs∧(bd p.1).length<17179869184∧(bd p.2).length<17179869184} (fun p=>[.one (bT p.1.1), .one (bT p.1.2), .one (.int .i64 0), .one (.exact (.slice none 0 0))]) (fun p=>p.1.2) ⟨(x.natAbs,y.natAbs),rfl,hs,hs2⟩ aO.rfl (fun _=>rfl) ?_;rintro ⟨⟨a,b⟩,hg,ha,hb⟩;dsimp only [aC,aD] at hg ha hb ⊢;have hbz:(bd b).length=0↔b=0:=by rw [List.length_eq_zero_iff,Dl]
 have hml:=eY (Nat.mod_le a b);apply vn (aL eT (aH _)) rfl;apply vn eF rfl;refine vs _ rfl ?_ ?_<;>intro h3
 ·have hb0:0<b:=by
   rcases Nat.eq_zero_or_pos b with h | h
   ·have:=hbz.2 h;omega
   ·exact h
  apply vn (aL eT (aH _)) rfl;apply vn iZ rfl;dsimp only [aC,aD];refine vs _ rfl ?_ ?_<;>intro h6
  ·apply vn (aL eT (aH _)) rfl;apply vn iZ rfl;refine vs _ rfl ?_ ?_<;>intro h9
   ·have h4:∀ n,(bd n).length≤4→n<1152921504606846976:=fun n hn=>Nat.lt_of_lt_of_le (Cz n) (RA hn);have ha4:=h4 a (by omega);have hb4:=h4 b (by omega);apply aA (Cd a) rfl;apply aA (Cd b) rfl;dsimp only [aC,aD];refine bJ {p:Nat×Nat // Nat.gcd p.1 p.2=Nat.gcd x.natAbs y.natAbs∧p.1<1152921504606846976∧p.2<1152921504606846976} (fun p=>[.one (.int .i64 p.1.1), .one (.int .i64 p.1.2)]) (fun p=>p.1.2) ⟨(a,b),hg,ha4,hb4⟩ aO.rfl (fun _=>rfl) ?_;rintro ⟨⟨p,q⟩,hpq,hp,hq⟩;dsimp only [aC,aD] at hpq hp hq ⊢;apply vn dS rfl;refine vs _ rfl ?_ ?_<;>intro h14
    ·apply vn (Dc (c:=((p%q:Nat):Int)) (by omega) (by rw [Int.tmod_eq_emod_of_nonneg (nA _),←Int.natCast_emod])) rfl;exact aY rfl ⟨⟨(q,p%q),by rw [←hpq,Nat.gcd_comm p q,Nat.gcd_rec q p,Nat.gcd_comm],hq,Nat.lt_of_le_of_lt (Nat.mod_le _ _) hp⟩,aO.rfl,Nat.mod_lt _ (by omega)⟩
    have hq0:q=0:=by omega
    subst hq0;rw [Nat.gcd_zero_right] at hpq;apply aA (mP p) rfl;dsimp only [aC,aD];rw [←hpq];exact aJ rfl
   apply aA (jN a b hb0) rfl;dsimp only [aC,aD];exact aY rfl ⟨⟨(b,a%b),by rw [←hg,Nat.gcd_comm a b,Nat.gcd_rec b a,Nat.gcd_comm],hb,by show (bd (a%b)).length<_;omega⟩,aO.rfl,Nat.mod_lt _ hb0⟩
  apply aA (jN a b hb0) rfl;dsimp only [aC,aD];exact aY rfl ⟨⟨(b,a%b),by rw [←hg,Nat.gcd_comm a b,Nat.gcd_rec b a,Nat.gcd_comm],hb,by show (bd (a%b)).length<_;omega⟩,aO.rfl,Nat.mod_lt _ hb0⟩
 have hb0:b=0:=hbz.1 (by omega);subst hb0;rw [Nat.gcd_zero_right] at hg;apply aA (fQ 1 (a:Int) (bd a) (hC _) (by rw [fK];rfl) (fun hne=>by rw [fK] at hne;exact Int.sign_eq_one_of_pos (by omega))) rfl;dsimp only [aC,aD];rw [←hg];exact aJ rfl
open Go Go.Proofs Tryz Ord
def bp8:Tr:=bB .eql 3 5 0 0 2 4 (.split (.u 1 0) (.need (.call 114 [(WK 1)] [(some 2)]) (.call ⟨.value (.func 114),#[(.const (I3 1))],#[2]⟩) 49 true (.ret [(G2 2)])) (.ret [(.agg [(U 0 2),(U 0 3)])]))
theorem aU2:aM prog f120 (fun _=>none) [.v (some 4)]=bp8:=by kernel_rfl
def aV3:Tr:=bB .eql 3 28 1 9 0 4 (.split (.u 10 0) (.ret [(.agg [(U 3 0),(U 3 1),(U 4 0),(U 4 1)])]) (aU 219 [(W 3 1),(W 5 1)] [none,none] [36,38] [47,47] 247 false (aU 219 [(W 4 1),(W 5 1)] [none,none] [44,46] [47,47] 247 false (aU 189 [(W 3 0),(W 11 0)] [(some 2)] [51,52] [3,47] 49 false (.need (.call 189 [(WK 1),(W 13 0)] [(some 2)]) (.call ⟨.value (.func 189),#[(.const (I3 1)),(tT 54)],#[3,47]⟩) 49 true (.ret [(.agg [(U 15 0),(U 15 1),(U 16 0),(U 16 1)])]))))))
def bj5:Tr:=bB .eql 3 22 1 6 0 4 (.split (.u 7 0) (.need (.prim [(W 5 1),(WK 0)] none) (.indexAddr 47 (tT 26) (.const (I3 0))) 0 false (dA 8 0 none 3 27 aV3)) (aU 219 [(W 3 1),(W 5 1)] [none,none] [36,38] [47,47] 247 false (aU 219 [(W 4 1),(W 5 1)] [none,none] [44,46] [47,47] 247 false (aU 189 [(W 3 0),(W 8 0)] [(some 2)] [51,52] [3,47] 49 false (.need (.call 189 [(WK 1),(W 10 0)] [(some 2)]) (.call ⟨.value (.func 189),#[(.const (I3 1)),(tT 54)],#[3,47]⟩) 49 true (.ret [(.agg [(U 12 0),(U 12 1),(U 13 0),(U 13 1)])]))))))
def aP3:Tr:=bB .eql 3 28 1 7 0 4 (.split (.u 8 0) (.ret [(.agg [(U 0 0),(U 0 1),(U 1 0),(U 1 1)])]) (aU 219 [(W 0 1),(W 3 1)] [none,none] [36,38] [47,47] 247 false (aU 219 [(W 1 1),(W 3 1)] [none,none] [44,46] [47,47] 247 false (aU 189 [(W 0 0),(W 9 0)] [(some 2)] [51,52] [3,47] 49 false (.need (.call 189 [(WK 1),(W 11 0)] [(some 2)]) (.call ⟨.value (.func 189),#[(.const (I3 1)),(tT 54)],#[3,47]⟩) 49 true (.ret [(.agg [(U 13 0),(U 13 1),(U 14 0),(U 14 1)])]))))))
def ax8:Tr:=bB .eql 3 22 1 4 0 4 (.split (.u 5 0) (.need (.prim [(W 3 1),(WK 0)] none) (.indexAddr 47 (tT 26) (.const (I3 0))) 0 false (dA 6 0 none 3 27 aP3)) (aU 219 [(W 0 1),(W 3 1)] [none,none] [36,38] [47,47] 247 false (aU 219 [(W 1 1),(W 3 1)] [none,none] [44,46] [47,47] 247 false (aU 189 [(W 0 0),(W 6 0)] [(some 2)] [51,52] [3,47] 49 false (.need (.call 189 [(WK 1),(W 8 0)] [(some 2)]) (.call ⟨.value (.func 189),#[(.const (I3 1)),(tT 54)],#[3,47]⟩) 49 true (.ret [(.agg [(U 10 0),(U 10 1),(U 11 0),(U 11 1)])]))))))
def bh1:Tr:=bB .lss 3 11 0 1 0 4 (.split (.u 2 0) (aU 217 [(G2 0)] [(some 2)] [13] [49] 49 false (aU 217 [(G2 1)] [(some 2)] [15] [49] 49 true (aU 218 [(G2 3),(G2 4)] [(some 2)] [17,18] [49,49] 49 true (cL 5 1 21 47 bj5)))) (aU 218 [(G2 0),(G2 1)] [(some 2)] [17,18] [49,49] 49 true (cL 3 1 21 47 ax8)))
theorem VC:aM prog f173 (fun _=>none) [.v (some 2), .v (some 2)]=bh1:=by kernel_rfl
def at5:Tr:=.ret [(.agg [(U 1 0),(U 1 1),(U 2 0),(U 2 1)])]
def bm4:Tr:=aU 114 [(W 0 0)] [(some 2)] [3] [2] 49 true (.need (.call 114 [(WK 1)] [(some 2)]) (.call ⟨.value (.func 114),#[(.const (I3 1))],#[2]⟩) 49 true at5)
theorem aF4:aM prog f39 (fun _=>none) [.v none]=bm4:=by kernel_rfl
def bh8:Tr:=aU 114 [(W 0 0)] [(some 2)] [5] [2] 49 false (aU 114 [(W 1 0)] [(some 2)] [7] [2] 49 true (aU 173 [(G2 2),(G2 3)] [(some 4)] [6,8] [49,49] 51 true (.ret [(G4 4)])))
theorem bs3:aM prog f75 (fun _=>none) [.v none, .v none]=bh8:=by kernel_rfl
def bf9:Tr:=aU 119 [(G2 1),(G2 4)] [(some 2)] [11,13] [49,49] 49 false (aU 187 [(G2 3),(G2 5)] [(some 2)] [9,14] [49,49] 49 false (aU 120 [(G4 0)] [(some 2)] [16] [51] 49 false (aU 120 [(G4 1)] [(some 2)] [18] [51] 49 false (aU 119 [(G2 7),(G2 8)] [(some 2)] [17,19] [49,49] 49 true (aU 173 [(G2 6),(G2 9)] [(some 4)] [15,20] [49,49] 51 true (.ret [(G4 10)]))))))
def ba2:Tr:=aU 120 [(G4 1)] [(some 2)] [7] [51] 49 false (aU 119 [(G2 0),(G2 2)] [(some 2)] [6,8] [49,49] 49 false (aU 120 [(G4 0)] [(some 2)] [12] [51] 49 false bf9))
theorem aX4:aM prog f99 (fun _=>none) [.v (some 4), .v (some 4)]=ba2:=by kernel_rfl
def bj6:Tr:=aU 185 [(G4 1)] [(some 4)] [6] [51] 51 true (aU 99 [(G4 0),(G4 2)] [(some 4)] [5,7] [51,51] 51 true (.ret [(G4 3)]))
theorem aX1:aM prog f96 (fun _=>none) [.v (some 4), .v (some 4)]=bj6:=by kernel_rfl
def av5:Tr:=.ret [(G4 6)]
def bs7:Tr:=aU 119 [(G2 0),(G2 1)] [(some 2)] [6,8] [49,49] 49 false (aU 120 [(G4 0)] [(some 2)] [10] [51] 49 false (aU 120 [(G4 1)] [(some 2)] [12] [51] 49 false (aU 119 [(G2 3),(G2 4)] [(some 2)] [11,13] [49,49] 49 true (aU 173 [(G2 2),(G2 5)] [(some 4)] [9,14] [49,49] 51 true av5))))
theorem aL9:aM prog f77 (fun _=>none) [.v (some 4), .v (some 4)]=bs7:=by kernel_rfl
def bb6:Tr:=aU 120 [(G4 1)] [(some 2)] [7] [51] 49 false (aU 119 [(G2 0),(G2 2)] [(some 2)] [6,8] [49,49] 49 false (aU 120 [(G4 0)] [(some 2)] [10] [51] 49 false (aU 119 [(G2 4),(G2 1)] [(some 2)] [11,13] [49,49] 49 true (aU 173 [(G2 3),(G2 5)] [(some 4)] [9,14] [49,49] 51 true av5))))
theorem aA4:aM prog f151 (fun _=>none) [.v (some 4), .v (some 4)]=bb6:=by kernel_rfl
def bo4:Tr:=aU 217 [(G2 0)] [(some 2)] [4] [49] 49 false (aU 120 [(G4 0)] [(some 2)] [6] [51] 49 true at5)
theorem aS8:aM prog f185 (fun _=>none) [.v (some 4)]=bo4:=by kernel_rfl
def be4:Tr:=aU 120 [(G4 1)] [(some 2)] [7] [51] 49 false (aU 119 [(G2 0),(G2 2)] [(some 2)] [6,8] [49,49] 49 false (aU 120 [(G4 0)] [(some 2)] [12] [51] 49 false (aU 119 [(G2 1),(G2 4)] [(some 2)] [11,13] [49,49] 49 true (aU 118 [(G2 3),(G2 5)] [none] [9,14] [49,49] 3 true (.ret [(W 6 0)])))))
theorem aX7:aM prog f41 (fun _=>none) [.v (some 4), .v (some 4)]=be4:=by kernel_rfl
def bh3:Tr:=.ret [(W 0 0)]
theorem af0:aM prog f56 (fun _=>none) [.v (some 4)]=bh3:=by kernel_rfl
structure RQ where
 q:Rat
 z:Bool
 h:z=true→q=0
def RQ.of (q:Rat):RQ:=⟨q,false,fun h=>by cases h⟩
def RQ.nil:RQ:=⟨0,true,fun _=>rfl⟩
abbrev rC (a:RQ):List aE:=[.int .i64 a.q.num.sign,bT a.q.num.natAbs, .int .i64 (if a.z then 0 else 1),bT (if a.z then 0 else a.q.den)]
abbrev oK (a:RQ):aK:=.agg (rC a)
theorem RQ.lW (q:Rat):(RQ.of q).q=q:=rfl
theorem aJ0 (q:Rat):zT (q.den:Int) = .agg [.int .i64 1,bT q.den]:=Rb q.den_pos
theorem bw1:bG aE.Sub [.int .i64 0, .exact (.slice none 0 0), .int .i64 0, .exact (.slice none 0 0)] (rC RQ.nil):=⟨aE.Sub.same,ZT rfl,aE.Sub.same,ZT rfl,trivial⟩
theorem kD (a:RQ):aN prog 120 [(oK a:aK)] (.ret [zT (a.q.den:Int)]):=by
 refine cW func120 aU2 ?_;apply vn cB rfl;refine vs _ rfl ?_ ?_<;>intro h1
 ·have ha:a.z=true:=by cases h:a.z<;>simp_all
  have hq:=a.h ha;apply aA (mP 1) rfl;dsimp only [aC,aD];rw [hq];exact aJ rfl
 have ha:a.z=false:=by cases h:a.z<;>simp_all
 refine aJ ?_;rw [aJ0];show [aK.agg [.int .i64 (if a.z then 0 else 1),bT (if a.z then 0 else a.q.den)]]=_;rw [ha];rfl
theorem fR {n B:Nat} (h:n<2^B):(bd n).length≤B:=jA (Nat.lt_of_lt_of_le h (Nat.pow_le_pow_left (by omega) B))
def sV (n d:Int):Rat:=mkRat (if d<0 then -n else n) d.natAbs
theorem ap6 {z:Int} {d:Nat} (hd:d≠0:=by omega):(mkRat z d).num=z/((z.natAbs.gcd d:Nat):Int)∧(mkRat z d).den=d/z.natAbs.gcd d∧(mkRat z d).num.natAbs=z.natAbs/z.natAbs.gcd d∧(mkRat z d).num.sign=z.sign:=by
 obtain ⟨h1,h2⟩:=Xy (z:=z) hd;have hg:0<z.natAbs.gcd d:=Nat.gcd_pos_of_pos_right _ (by omega);have hgz:z≠0→z.natAbs.gcd d≤z.natAbs:=fun h=>Nat.gcd_le_left _ (by omega)
 have h3:(mkRat z d).num.natAbs=z.natAbs/z.natAbs.gcd d:=by
  rw [h1];generalize z.natAbs/z.natAbs.gcd d=t;split<;>omega
 refine ⟨?_,h2,h3,?_⟩
 ·rw [←Rat.normalize_eq_mkRat hd,Rat.normalize_eq hd]
 ·rcases cX z with ⟨h,e⟩ | ⟨h,e⟩ | ⟨h,e⟩
  ·rw [e,h1,decide_eq_true h,if_pos rfl];have:=Nat.div_pos (hgz (by omega)) hg;exact Int.sign_eq_neg_one_of_neg (by omega)
  ·rw [e];subst h;rw [Rat.zero_mkRat];rfl
  ·rw [e,h1,decide_eq_false (by omega),if_neg (by simp)];have:=Nat.div_pos (hgz (by omega)) hg;exact Int.sign_eq_one_of_pos (by omega)
theorem uY {g:Nat} (h:(bd g).length=1) {x:Nat} (hx:(bd g)[0]? = some x):g=x:=by
 match hb:bd g,h with
 | [y],_=>
   rw [hb] at hx;simp only [List.getElem?_cons_zero,aP] at hx;subst hx;rw [←fK g,hb,AH];simp [bv,val]
theorem zJ {q:Rat}:oK (RQ.of q) = .agg [.int .i64 q.num.sign,bT q.num.natAbs, .int .i64 1,bT q.den]:=rfl
set_option maxHeartbeats 1000000 in
theorem wO (n d:Int) (hd:d≠0) (hs2:(bd d.natAbs).length<8589934592:=by omega) (hs:(bd n.natAbs).length<8589934592:=by omega):aN prog 173 [(zT n:aK),(zT d:aK)] (.ret [oK (.of (sV n d))]):=by
 refine cW func173 VC ?_;have hsd:=cX d
 have key:∀ m:Int,m.natAbs=n.natAbs→sV n d=mkRat m d.natAbs→(sV n d).den=d.natAbs/Nat.gcd n.natAbs d.natAbs∧(sV n d).num.natAbs=n.natAbs/Nat.gcd n.natAbs d.natAbs∧(sV n d).num.sign=m.sign:=fun m hm e=>by
  have:=ap6 (z:=m) (d:=d.natAbs);rw [hm] at this;rw [e];exact ⟨this.2.1,this.2.2.1,this.2.2.2⟩
 have hg:0<Nat.gcd n.natAbs d.natAbs:=Nat.gcd_pos_of_pos_right _ (by omega);have hgd:Nat.gcd n.natAbs d.natAbs≤d.natAbs:=Nat.gcd_le_right _ (by omega);have hgl:=eY hgd;have hdg:=Nat.div_pos hgd hg;have hnl:=eY (Nat.div_le_self n.natAbs (Nat.gcd n.natAbs d.natAbs));have hdl:=eY (Nat.div_le_self d.natAbs (Nat.gcd n.natAbs d.natAbs));apply vn bF rfl;refine vs _ rfl ?_ ?_<;>intro h1
 ·have hd0:d<0:=by rcases hsd with ⟨h,e⟩ | ⟨h,e⟩ | ⟨h,e⟩<;>omega
  have hR:sV n d=mkRat (-n) d.natAbs:=by rw [sV,if_pos hd0]
  obtain ⟨k1,k2,k3⟩:=key (-n) (Int.natAbs_neg n) hR;generalize sV n d=q at *;apply aA (Bi n) rfl;apply aA (Bi d) rfl;dsimp only [aC,aD];have hc:=RW (-n) (-d) (by rw [Int.natAbs_neg];omega) (by rw [Int.natAbs_neg];omega);rw [Int.natAbs_neg,Int.natAbs_neg] at hc;apply aA hc rfl;generalize hG:Nat.gcd n.natAbs d.natAbs=g at *;apply vn (aL eT (aH _)) rfl;apply vn cB rfl;refine vs _ rfl ?_ ?_<;>intro h7
  ·obtain ⟨x,hx⟩:∃ x,(bd g)[0]? = some x:=⟨_,bI (by rw [Int.natAbs_natCast] at h7;omega)⟩
   apply vn (aG eT (by omega) (by omega) (show (bd ((g:Int)).natAbs)[0]? = some x from hx)) rfl;dsimp only [aC,aD];apply vn (bD Vm) rfl;apply vn cB rfl;refine vs _ rfl ?_ ?_<;>intro h11
   ·have hg1:g=1:=by
     have:=uY (g:=g) (by rw [Int.natAbs_natCast] at h7;omega) hx;omega
    rw [hg1,Nat.div_one] at k1 k2;refine aJ ?_;rw [zJ,k3,k2,k1];show [aK.agg [.int .i64 (-n).sign,bT (-n).natAbs, .int .i64 (-d).sign,bT (-d).natAbs]]=_;rw [Int.natAbs_neg,Int.natAbs_neg,Int.sign_eq_one_of_pos (show 0 < -d by omega)]
   have ho1:=jN n.natAbs g hg;have ho2:=jN d.natAbs g hg;rw [←k2] at ho1 hnl;rw [←k1] at ho2 hdl hdg;have hn':(-n).natAbs=n.natAbs:=Int.natAbs_neg n;have hd':(-d).natAbs=d.natAbs:=Int.natAbs_neg d;rw [←hn'] at ho1;rw [←hd'] at ho2;apply aA ho1 rfl;apply aA ho2 rfl;dsimp only [aC,aD];apply aA (fQ (-n).sign q.num _ (hC _) (by rw [fK]) (fun _=>k3)) rfl;apply aA (fQ 1 (q.den:Int) _ (hC _) (by rw [fK];rfl) (fun _=>Int.sign_eq_one_of_pos (by omega))) rfl;dsimp only [aC,aD];refine aJ ?_;rw [zJ];show [aK.agg [.int .i64 q.num.sign,bT q.num.natAbs, .int .i64 (q.den:Int).sign,bT (q.den:Int).natAbs]]=_;rw [Int.sign_eq_one_of_pos (show (0:Int)<q.den by omega),Int.natAbs_natCast]
  have ho1:=jN n.natAbs g hg;have ho2:=jN d.natAbs g hg;rw [←k2] at ho1 hnl;rw [←k1] at ho2 hdl hdg;have hn':(-n).natAbs=n.natAbs:=Int.natAbs_neg n;have hd':(-d).natAbs=d.natAbs:=Int.natAbs_neg d;rw [←hn'] at ho1;rw [←hd'] at ho2;apply aA ho1 rfl;apply aA ho2 rfl;apply aA (fQ (-n).sign q.num _ (hC _) (by rw [fK]) (fun _=>k3)) rfl;apply aA (fQ 1 (q.den:Int) _ (hC _) (by rw [fK];rfl) (fun _=>Int.sign_eq_one_of_pos (by omega))) rfl;dsimp only [aC,aD];refine aJ ?_;rw [zJ];show [aK.agg [.int .i64 q.num.sign,bT q.num.natAbs, .int .i64 (q.den:Int).sign,bT (q.den:Int).natAbs]]=_;rw [Int.sign_eq_one_of_pos (show (0:Int)<q.den by omega),Int.natAbs_natCast]
 have hd0:0<d:=by rcases hsd with ⟨h,e⟩ | ⟨h,e⟩ | ⟨h,e⟩<;>omega
 have hR:sV n d=mkRat n d.natAbs:=by rw [sV,if_neg (by omega)]
 obtain ⟨k1,k2,k3⟩:=key n rfl hR;generalize sV n d=q at *;have hc:=RW n d;apply aA hc rfl;generalize hG:Nat.gcd n.natAbs d.natAbs=g at *;apply vn (aL eT (aH _)) rfl;apply vn cB rfl;refine vs _ rfl ?_ ?_<;>intro h26
 ·obtain ⟨x,hx⟩:∃ x,(bd g)[0]? = some x:=⟨_,bI (by rw [Int.natAbs_natCast] at h26;omega)⟩
  apply vn (aG eT (by omega) (by omega) (show (bd ((g:Int)).natAbs)[0]? = some x from hx)) rfl;dsimp only [aC,aD];apply vn (bD Vm) rfl;apply vn cB rfl;refine vs _ rfl ?_ ?_<;>intro h30
  ·have hg1:g=1:=by
    have:=uY (g:=g) (by rw [Int.natAbs_natCast] at h26;omega) hx;omega
   rw [hg1,Nat.div_one] at k1 k2;refine aJ ?_;rw [zJ,k3,k2,k1];show [aK.agg [.int .i64 n.sign,bT n.natAbs, .int .i64 d.sign,bT d.natAbs]]=_;rw [Int.sign_eq_one_of_pos (show 0<d by omega)]
  have ho1:=jN n.natAbs g hg;have ho2:=jN d.natAbs g hg;rw [←k2] at ho1 hnl;rw [←k1] at ho2 hdl hdg;apply aA ho1 rfl;apply aA ho2 rfl;dsimp only [aC,aD];apply aA (fQ n.sign q.num _ (hC _) (by rw [fK]) (fun _=>k3)) rfl;apply aA (fQ 1 (q.den:Int) _ (hC _) (by rw [fK];rfl) (fun _=>Int.sign_eq_one_of_pos (by omega))) rfl;dsimp only [aC,aD];refine aJ ?_;rw [zJ];show [aK.agg [.int .i64 q.num.sign,bT q.num.natAbs, .int .i64 (q.den:Int).sign,bT (q.den:Int).natAbs]]=_;rw [Int.sign_eq_one_of_pos (show (0:Int)<q.den by omega),Int.natAbs_natCast]
 have ho1:=jN n.natAbs g hg;have ho2:=jN d.natAbs g hg;rw [←k2] at ho1 hnl;rw [←k1] at ho2 hdl hdg;apply aA ho1 rfl;apply aA ho2 rfl;apply aA (fQ n.sign q.num _ (hC _) (by rw [fK]) (fun _=>k3)) rfl;apply aA (fQ 1 (q.den:Int) _ (hC _) (by rw [fK];rfl) (fun _=>Int.sign_eq_one_of_pos (by omega))) rfl;dsimp only [aC,aD];refine aJ ?_;rw [zJ];show [aK.agg [.int .i64 q.num.sign,bT q.num.natAbs, .int .i64 (q.den:Int).sign,bT (q.den:Int).natAbs]]=_;rw [Int.sign_eq_one_of_pos (show (0:Int)<q.den by omega),Int.natAbs_natCast]
theorem PM {n:Int} {d:Nat}:sV n (d:Int)=mkRat n d:=by
 rw [sV,if_neg (by omega),Int.natAbs_natCast]
theorem OV {a b:Rat} (hb:b≠0):sV (a.num*(b.den:Int)) ((a.den:Int)*b.num)=a/b:=by
 have hn:b.num≠0:=fun e=>hb (Rat.num_eq_zero.1 e);have ha:=a.den_pos;rw [←XI hb,sV,Int.natAbs_mul,Int.natAbs_natCast];by_cases h:b.num<0
 ·rw [if_pos (Int.mul_neg_of_pos_of_neg (by omega) h),decide_eq_true h,if_pos rfl,Int.mul_neg]
 ·rw [if_neg (by have:=Int.mul_nonneg (show (0:Int)≤a.den by omega) (show 0≤b.num by omega);omega),decide_eq_false h,if_neg (by simp)]
theorem aq3 {n d:Int} (hd:d≠0):sV n d=(n:Rat)/(d:Rat):=by
 have h:=OV (a:=(n:Rat)) (b:=(d:Rat)) (by rw [Ne,←Rat.num_eq_zero,Rat.num_intCast];exact hd);rw [Rat.num_intCast,Rat.num_intCast,Rat.den_intCast,Rat.den_intCast] at h;rw [←h];congr 1<;>omega
theorem Fit.bd {B:Nat} {q:Rat} (h:Fit B q):(bd q.num.natAbs).length≤B∧(bd q.den).length≤B:=⟨fR h.1,fR h.2⟩
theorem nO (n:Int) (h1:-9223372036854775808≤n:=by omega) (h2:n<9223372036854775808:=by omega):aN prog 39 [(.one (.int .i64 n):aK)] (.ret [oK (.of (n:Rat))]):=by
 refine cW func39 aF4 ?_;apply aA (mP n h1 h2) rfl;apply aA (mP 1) rfl;dsimp only [aC,aD];rw [zJ,Rat.num_intCast,Rat.den_intCast];exact aJ rfl
theorem au0 (n d:Int) (h1:-9223372036854775808≤n) (h2:n<9223372036854775808) (hd:d≠0:=by omega) (h3:-9223372036854775808≤d:=by omega) (h4:d<9223372036854775808:=by omega):aN prog 75 [(.one (.int .i64 n):aK),(.one (.int .i64 d):aK)] (.ret [oK (.of ((n:Rat)/(d:Rat)))]):=by
 refine cW func75 bs3 ?_;apply aA (mP n h1 h2) rfl;apply aA (mP d h3 h4) rfl;dsimp only [aC,aD];have hn:=fR (n:=n.natAbs) (B:=64) (by omega);have hdd:=fR (n:=d.natAbs) (B:=64) (by omega);apply aA (wO n d hd) rfl;rw [aq3 hd];exact aJ rfl
theorem aI8 (a:RQ):aN prog 185 [(oK a:aK)] (.ret [oK (.of (-a.q))]):=by
 refine cW func185 aS8 ?_;apply aA (Bi a.q.num) rfl;apply aA (kD a) rfl;dsimp only [aC,aD];refine aJ ?_;rw [zJ,Rat.neg_num,Rat.neg_den];show [aK.agg [.int .i64 (-a.q.num).sign,bT (-a.q.num).natAbs, .int .i64 (a.q.den:Int).sign,bT (a.q.den:Int).natAbs]]=_;have:=a.q.den_pos;rw [Int.sign_eq_one_of_pos (show (0:Int)<a.q.den by omega),Int.natAbs_natCast]
theorem af8 (a:RQ):aN prog 56 [(oK a:aK)] (.ret [.one (.int .i64 a.q.num.sign)]):=by
 refine cW func56 af0 ?_;exact aJ rfl
theorem Ed (a b:RQ) (A B:Nat) (ha:Fit A a.q) (hb:Fit B b.q) (h:A+B≤4294967296:=by omega):aN prog 77 [(oK a:aK),(oK b:aK)] (.ret [oK (.of (a.q*b.q))]):=by
 refine cW func77 aL9 ?_;obtain ⟨ha1,ha2⟩:=Fit.bd ha;obtain ⟨hb1,hb2⟩:=Fit.bd hb;have hn:=fR (bR ha.1 hb.1);have hd:=fR (bR ha.2 hb.2);have hpa:=a.q.den_pos;have hpb:=b.q.den_pos;apply aA (jJ a.q.num b.q.num) rfl;apply aA (kD a) rfl;apply aA (kD b) rfl;apply aA (jJ (a.q.den:Int) (b.q.den:Int) (by rw [Int.natAbs_natCast,Int.natAbs_natCast];omega)) rfl;rw [←Int.natCast_mul];dsimp only [aC,aD];apply aA (wO _ ((a.q.den*b.q.den:Nat):Int) (by have:=Nat.mul_pos hpa hpb;omega) (by rw [Int.natAbs_natCast];omega) (by rw [Int.natAbs_mul];omega)) rfl;rw [PM,←Rat.mul_def'];exact aJ rfl
theorem yC (a b:RQ) (A B:Nat) (ha:Fit A a.q) (hb:Fit B b.q) (h:A+B≤4294967296:=by omega):aN prog 99 [(oK a:aK),(oK b:aK)] (.ret [oK (.of (a.q+b.q))]):=by
 refine cW func99 aX4 ?_;obtain ⟨ha1,ha2⟩:=Fit.bd ha;obtain ⟨hb1,hb2⟩:=Fit.bd hb;have hn1:=fR (bR ha.1 hb.2);have hn2:=fR (bR hb.1 ha.2);have hd:=fR (bR ha.2 hb.2);have hpa:=a.q.den_pos;have hpb:=b.q.den_pos
 have hsum:(bd (a.q.num*(b.q.den:Int)+b.q.num*(a.q.den:Int)).natAbs).length≤A+B+1:=by
  apply fR;have h1:=bR ha.1 hb.2;have h2:=bR hb.1 ha.2;rw [Nat.add_comm B A] at h2;rw [Nat.pow_succ];refine Nat.lt_of_le_of_lt (Int.natAbs_add_le _ _) ?_;rw [Int.natAbs_mul,Int.natAbs_mul,Int.natAbs_natCast,Int.natAbs_natCast];omega
 apply aA (kD b) rfl;apply aA (jJ a.q.num (b.q.den:Int) (by rw [Int.natAbs_natCast];omega)) rfl;apply aA (kD a) rfl;apply aA (jJ b.q.num (a.q.den:Int) (by rw [Int.natAbs_natCast];omega)) rfl;dsimp only [aC,aD];apply aA (RU _ _ (by rw [Int.natAbs_mul,Int.natAbs_natCast];omega) (by rw [Int.natAbs_mul,Int.natAbs_natCast];omega)) rfl;apply aA (kD a) rfl;apply aA (kD b) rfl;apply aA (jJ (a.q.den:Int) (b.q.den:Int) (by rw [Int.natAbs_natCast,Int.natAbs_natCast];omega)) rfl;rw [←Int.natCast_mul a.q.den b.q.den];dsimp only [aC,aD];apply aA (wO _ ((a.q.den*b.q.den:Nat):Int) (by have:=Nat.mul_pos hpa hpb;omega) (by rw [Int.natAbs_natCast];omega)) rfl;rw [PM,←Rat.add_def'];exact aJ rfl
theorem Xq (a b:RQ) (A B:Nat) (ha:Fit A a.q) (hb:Fit B b.q) (h:A+B≤4294967296:=by omega):aN prog 96 [(oK a:aK),(oK b:aK)] (.ret [oK (.of (a.q-b.q))]):=by
 refine cW func96 aX1 ?_;apply aA (aI8 b) rfl;apply aA (yC a (.of (-b.q)) A B ha hb.neg h) rfl;rw [RQ.lW,←Rat.sub_eq_add_neg];exact aJ rfl
theorem az2 (a b:RQ) (A B:Nat) (hb0:b.q≠0) (ha:Fit A a.q) (hb:Fit B b.q) (h:A+B≤4294967296:=by omega):aN prog 151 [(oK a:aK),(oK b:aK)] (.ret [oK (.of (a.q/b.q))]):=by
 refine cW func151 aA4 ?_;obtain ⟨ha1,ha2⟩:=Fit.bd ha;obtain ⟨hb1,hb2⟩:=Fit.bd hb;have hn:=fR (bR ha.1 hb.2);have hd:=fR (bR ha.2 hb.1);have hpa:=a.q.den_pos;have hnb:b.q.num≠0:=fun e=>hb0 (Rat.num_eq_zero.1 e);apply aA (kD b) rfl;apply aA (jJ a.q.num (b.q.den:Int) (by rw [Int.natAbs_natCast];omega)) rfl;apply aA (kD a) rfl;apply aA (jJ (a.q.den:Int) b.q.num (by rw [Int.natAbs_natCast];omega)) rfl;dsimp only [aC,aD];apply aA (wO _ _ (Int.mul_ne_zero (by omega) hnb) (by rw [Int.natAbs_mul,Int.natAbs_natCast];omega) (by rw [Int.natAbs_mul,Int.natAbs_natCast];omega)) rfl;rw [OV hb0];exact aJ rfl
theorem xA (a b:RQ) (A B:Nat) (ha:Fit A a.q) (hb:Fit B b.q) (h:A+B≤4294967296:=by omega):aN prog 41 [(oK a:aK),(oK b:aK)] (.ret [.one (.int .i64 (fL a.q b.q))]):=by
 refine cW func41 aX7 ?_;obtain ⟨ha1,ha2⟩:=Fit.bd ha;obtain ⟨hb1,hb2⟩:=Fit.bd hb;have hn1:=fR (bR ha.1 hb.2);have hn2:=fR (bR hb.1 ha.2);apply aA (kD b) rfl;apply aA (jJ a.q.num (b.q.den:Int) (by rw [Int.natAbs_natCast];omega)) rfl;apply aA (kD a) rfl;apply aA (jJ b.q.num (a.q.den:Int) (by rw [Int.natAbs_natCast];omega)) rfl;dsimp only [aC,aD];apply aA (aa2 _ _ (by rw [Int.natAbs_mul,Int.natAbs_natCast];omega) (by rw [Int.natAbs_mul,Int.natAbs_natCast];omega)) rfl;rw [←xS];exact aJ rfl
end Go.Sy
