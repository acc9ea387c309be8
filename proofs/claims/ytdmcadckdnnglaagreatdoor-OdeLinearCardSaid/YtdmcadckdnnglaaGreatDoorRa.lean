/- Part. -/
import Derived.Test.YtdmcadckdnnglaaGreatDoorNb
set_option linter.all false
namespace Go.Sy
open Go Go.Proofs Tryz Ord
def Lv:Tr:=.ret [(W 1 0)]
def aF9:Tr:=.split (.u 3 0) (.need (.prim [(W 1 0),(WK 0)] none) (.indexAddr 45 (tT 7) (.const (I3 0))) 0 false (eS 4 0 none 3 8 (bA .eql 3 9 0 5 0 4 (.split (.u 6 0) (.need (.prim [(W 1 0),(WK 1)] none) (.slice 45 (tT 12) (some (.const (I3 1))) none none) 45 false (.back 0 [lV 7 0])) Lv)))) Lv
def aU8:Tr:=.loop 0 [lV 0 0] (cV 1 0 3 45 (bA .gtr 3 4 0 2 0 4 aF9))
theorem SZ:aL prog f260 (fun _=>none) [.v none]=aU8:=by kernel_rfl
def aS1:Tr:=aM 260 [(W 1 0)] [none] [5] [45] 45 true (cV 2 0 7 45 (bA .eql 3 8 0 3 0 4 (.split (.u 4 0) (.ret [(.agg [(tE (.int .i64 0)),tN])]) (.ret [(.agg [(U 0 0),(U 2 0)])]))))
theorem XD:aL prog f211 (fun _=>none) [.v none, .v none]=aS1:=by kernel_rfl
def aH5:Tr:=bA .lss 3 12 0 5 0 4 (.split (.u 6 0) (.need (.prim [(W 5 0)] none) (.unOp .neg 3 (tT 14)) 3 false (.need (.lit 1 [[(.u 7 0)]]) (.buildSlice 45 1 #[(0,(tT 16))]) 45 false (.need (.app 1 8 (some 8) none (some 3)) (.call ⟨.builtin .append,#[(tT 17),(tT 18)],#[45,45]⟩) 45 false (bA .quo 2 20 32768 2 0 2 (.back 0 [lV 10 0, .row 9]))))) (.need (.lit 1 [[(.u 5 0)]]) (.buildSlice 45 1 #[(0,(tT 16))]) 45 false (.need (.app 1 8 (some 7) none (some 3)) (.call ⟨.builtin .append,#[(tT 17),(tT 18)],#[45,45]⟩) 45 false (bA .quo 2 20 32768 2 0 2 (.back 0 [lV 9 0, .row 8])))))
def Zv:Tr:=bA .rem 2 10 32768 2 0 2 aH5
def TP:Tr:=.ret [(G2 5)]
def aK0:Tr:=bA .lss 2 6 0 0 0 4 (.split (.u 1 0) (.loop 0 [lV 0 0, .nilrow] (bA .neq 2 8 0 2 0 4 (.split (.u 4 0) Zv (aM 211 [(WK (-1)),(.one (.c (.sr 1 3)))] [(some 2)] [22,23] [3,45] 47 true TP)))) (.loop 0 [lV 0 0, .nilrow] (bA .neq 2 8 0 2 0 4 (.split (.u 4 0) Zv (aM 211 [(WK 1),(.one (.c (.sr 1 3)))] [(some 2)] [22,23] [3,45] 47 true TP)))))
theorem WV:aL prog f139 (fun _=>none) [.v none]=aK0:=by kernel_rfl
def aa9:Tr:=.ret [(WK (-1))]
def ZC:Tr:=.ret [(WK 1)]
def av5:Tr:=eS 14 0 none 3 33 (fP 1 0 6 0 45 35 36 (eS 16 0 none 3 37 (bM .gtr 3 34 38 15 0 17 0 4 (.split (.u 18 0) ZC (bA .add 3 20 1 6 0 3 (.back 0 [lV 5 0,lV 19 0]))))))
def ac9:Tr:=fP 0 0 6 0 45 22 23 (eS 9 0 none 3 24 (fP 1 0 6 0 45 26 27 (eS 11 0 none 3 28 (bM .lss 3 25 29 10 0 12 0 4 (.split (.u 13 0) aa9 (fP 0 0 6 0 45 31 32 av5))))))
def UL:Tr:=.ret [(WK 0)]
def aG0:Tr:=cV 1 0 8 45 (bM .neq 3 7 9 2 0 3 0 4 (.split (.u 4 0) (cV 0 0 11 45 (cV 1 0 13 45 (bM .lss 3 12 14 5 0 6 0 4 (.split (.u 7 0) aa9 ZC)))) (.loop 0 [lK 0,lK 0] (cV 0 0 17 45 (bM .lss 3 16 18 6 0 7 0 4 (.split (.u 8 0) ac9 UL))))))
def aK5:Tr:=cV 0 0 6 45 aG0
theorem Tc:aL prog f215 (fun _=>none) [.v none, .v none]=aK5:=by kernel_rfl
def aE3:Tr:=.split (.u 3 0) UL (cV 0 0 10 45 (bA .sub 3 11 1 4 0 3 (bM .sub 3 12 13 5 0 1 0 3 (fP 0 0 6 0 45 9 14 (eS 7 0 none 3 15 (.ret [(W 8 0)]))))))
def aJ8:Tr:=cV 0 0 6 45 (bM .geq 3 5 7 1 0 2 0 4 aE3)
theorem Tv:aL prog f263 (fun _=>none) [.v none, .v none]=aJ8:=by kernel_rfl
def Zw:Tr:=.ret [(W 5 0)]
def aE9:Tr:=cV 0 0 5 45 (cV 1 0 7 45 (bM .gtr 3 6 8 2 0 3 0 4 (.split (.u 4 0) (cV 0 0 10 45 Zw) (cV 1 0 12 45 Zw))))
theorem KH:aL prog f262 (fun _=>none) [.v none, .v none]=aE9:=by kernel_rfl
def ax0:Tr:=bA .sub 3 40 32768 16 0 3 (bA .sub 3 43 1 4 0 3 (bM .sub 3 44 45 19 0 7 0 3 (.need (.idx 8 (.u 20 0)) (.indexAddr 45 (tT 42) (tT 46)) 0 false (.need (.strow 8 1 (.u 20 0) 0 [(.u 18 0)]) (.store 3 (tT 48) (tT 47)) 0 false (bA .add 3 21 1 7 0 3 (.back 0 [lK 1,lV 22 0, .row 21]))))))
def ae5:Tr:=.split (.u 17 0) ax0 (bA .sub 3 43 1 4 0 3 (bM .sub 3 44 45 18 0 7 0 3 (.need (.idx 8 (.u 19 0)) (.indexAddr 45 (tT 42) (tT 46)) 0 false (.need (.strow 8 1 (.u 19 0) 0 [(.u 16 0)]) (.store 3 (tT 48) (tT 47)) 0 false (bA .add 3 21 1 7 0 3 (.back 0 [lK (-1),lV 21 0, .row 20]))))))
def az2:Tr:=bA .sub 3 40 32768 14 0 3 (bA .sub 3 43 1 4 0 3 (bM .sub 3 44 45 18 0 7 0 3 (.need (.idx 8 (.u 19 0)) (.indexAddr 45 (tT 42) (tT 46)) 0 false (.need (.strow 8 1 (.u 19 0) 0 [(.u 17 0)]) (.store 3 (tT 48) (tT 47)) 0 false (bA .add 3 21 1 7 0 3 (.back 0 [lK 1,lV 21 0, .row 20]))))))
def ak6:Tr:=.split (.u 16 0) az2 (bA .sub 3 43 1 4 0 3 (bM .sub 3 44 45 17 0 7 0 3 (.need (.idx 8 (.u 18 0)) (.indexAddr 45 (tT 42) (tT 46)) 0 false (.need (.strow 8 1 (.u 18 0) 0 [(.u 14 0)]) (.store 3 (tT 48) (tT 47)) 0 false (bA .add 3 21 1 7 0 3 (.back 0 [lK 0,lV 20 0, .row 19]))))))
def aO7:Tr:=bM .mul 3 26 29 2 0 11 0 3 (bM .add 3 25 30 10 0 12 0 3 (bM .add 3 31 32 13 0 6 0 3 (bA .lss 3 34 0 14 0 4 (.split (.u 15 0) (bA .add 3 36 32768 14 0 3 (bA .geq 3 38 32768 16 0 4 ae5)) (bA .geq 3 38 32768 14 0 4 ak6)))))
def aP0:Tr:=bA .add 3 14 1 3 0 3 (.need (.make [(.int .i64 0)] 8 (.u 4 0) (.u 4 0)) (.makeSlice 45 (tT 16) (tT 16)) 45 false (.loop 0 [lK 0,lK 0, .row 5] (bM .lss 3 18 19 7 0 4 0 4 (.split (.u 9 0) (aM 263 [(W 0 0),(W 7 0)] [none] [23,24] [45,3] 3 false (aM 263 [(W 1 0),(W 7 0)] [none] [27,28] [45,3] 3 false aO7)) (aM 260 [(.one (.c (.sr 1 8)))] [none] [49] [45] 45 true (.ret [(W 10 0)]))))))
def aQ3:Tr:=aM 262 [(W 0 0),(W 1 0)] [none] [12,13] [45,45] 3 true aP0
theorem Xe:aL prog f214 (fun _=>none) [.v none, .v none, .v none]=aQ3:=by kernel_rfl
def Zz:Tr:=.ret [(.agg [(U 1 0),(U 0 1)])]
def aN5:Tr:=.need (.prim [(W 0 0)] none) (.unOp .neg 3 (tT 4)) 3 false Zz
theorem XI:aL prog f183 (fun _=>none) [.v (some 2)]=aN5:=by kernel_rfl
def aM9:Tr:=bM .mul 3 4 6 0 0 0 0 3 Zz
theorem YV:aL prog f148 (fun _=>none) [.v (some 2)]=aM9:=by kernel_rfl
def Le:Tr:=.ret [(G2 8)]
def aT6:Tr:=bM .eql 3 14 16 0 0 1 0 4 (.split (.u 4 0) (.need (.call 214 [(W 0 1),(W 1 1),(WK 1)] [none]) (.call ⟨.value (.func 214),#[(tT 21),(tT 23),(.const (I3 1))],#[45,45,3]⟩) 45 true (aM 211 [(W 0 0),(W 5 0)] [(some 2)] [19,24] [3,45] 47 true (.ret [(G2 6)]))) (aM 215 [(W 0 1),(W 1 1)] [none] [27,29] [45,45] 3 true (bA .geq 3 30 0 5 0 4 (.split (.u 6 0) (.need (.call 214 [(W 0 1),(W 1 1),(WK (-1))] [none]) (.call ⟨.value (.func 214),#[(tT 35),(tT 37),(.const (I3 (-1)))],#[45,45,3]⟩) 45 true (aM 211 [(W 0 0),(W 7 0)] [(some 2)] [33,38] [3,45] 47 true Le)) (.need (.call 214 [(W 1 1),(W 0 1),(WK (-1))] [none]) (.call ⟨.value (.func 214),#[(tT 43),(tT 45),(.const (I3 (-1)))],#[45,45,3]⟩) 45 true (aM 211 [(W 1 0),(W 7 0)] [(some 2)] [41,46] [3,45] 47 true Le))))))
def aV0:Tr:=bA .eql 3 6 0 0 0 4 (.split (.u 2 0) (.ret [(G2 1)]) (bA .eql 3 10 0 1 0 4 (.split (.u 3 0) (.ret [(G2 0)]) aT6)))
theorem Vq:aL prog f138 (fun _=>none) [.v (some 2), .v (some 2)]=aV0:=by kernel_rfl
def aT7:Tr:=aM 183 [(G2 1)] [(some 2)] [6] [47] 47 true (aM 138 [(G2 0),(G2 2)] [(some 2)] [5,7] [47,47] 47 true (.ret [(G2 3)]))
theorem Xo:aL prog f210 (fun _=>none) [.v (some 2), .v (some 2)]=aT7:=by kernel_rfl
def ad3:Tr:=bA .add 3 58 1 27 0 3 (bA .rem 3 60 32768 26 0 3 (.need (.idx 15 (.u 28 0)) (.indexAddr 45 (tT 55) (tT 59)) 0 false (.need (.strow 15 1 (.u 28 0) 0 [(.u 29 0)]) (.store 3 (tT 62) (tT 61)) 0 false (bA .quo 3 63 32768 26 0 3 (bA .sub 3 32 1 14 0 3 (.back 1 [lV 31 0,lV 32 0, .row 30]))))))
def as0:Tr:=eS 20 0 none 3 44 (fP 1 1 14 0 45 47 48 (eS 22 0 none 3 49 (bM .mul 3 45 50 21 0 23 0 3 (bM .add 3 40 51 19 0 24 0 3 (bM .add 3 52 53 25 0 13 0 3 (bM .add 3 56 57 8 0 14 0 3 ad3))))))
def ao2:Tr:=bA .geq 3 30 0 14 0 4 (.split (.u 16 0) (bM .add 3 35 36 8 0 14 0 3 (bA .add 3 37 1 17 0 3 (.need (.idx 15 (.u 18 0)) (.indexAddr 45 (tT 34) (tT 38)) 0 false (.need (.ldrow 15 (.u 18 0) 0 1 false) (.load 3 (tT 39)) 3 false (fP 0 1 8 0 45 42 43 as0))))) (.need (.idx 15 (.u 8 0)) (.indexAddr 45 (tT 65) (tT 66)) 0 false (.need (.strow 15 1 (.u 8 0) 0 [(.u 13 0)]) (.store 3 (tT 68) (tT 67)) 0 false (bA .sub 3 24 1 8 0 3 (.back 0 [lV 18 0, .row 17])))))
def aO0:Tr:=bA .sub 3 20 1 6 0 3 (.loop 0 [lV 7 0, .row 5] (bA .geq 3 22 0 8 0 4 (.split (.u 10 0) (cV 1 1 27 45 (bA .sub 3 28 1 11 0 3 (.loop 1 [lK 0,lV 12 0, .row 9] ao2))) (bM .mul 3 70 72 0 0 1 0 3 (aM 211 [(W 11 0),(.one (.c (.sr 1 9)))] [(some 2)] [73,74] [3,45] 47 true (.ret [(G2 12)]))))))
def aW5:Tr:=cV 0 1 11 45 (cV 1 1 14 45 (bM .add 3 12 15 2 0 3 0 3 (.need (.make [(.int .i64 0)] 8 (.u 4 0) (.u 4 0)) (.makeSlice 45 (tT 16) (tT 16)) 45 false (cV 0 1 19 45 aO0))))
theorem Wt:aL prog f135 (fun _=>none) [.v (some 2), .v (some 2)]=aW5:=by kernel_rfl
def aX6:Tr:=aM 210 [(G2 0),(G2 1)] [(some 2)] [5,6] [47,47] 47 true (.ret [(W 2 0)])
theorem Yq:aL prog f134 (fun _=>none) [.v (some 2), .v (some 2)]=aX6:=by kernel_rfl
abbrev rB (ds:List Nat):List (List aE):=ds.map fun (d:Nat)=>[aE.int .i64 (d:Int)]
abbrev sB (ds:List Nat):aE:=.slice 1 (rB ds)
abbrev bT (n:Nat):aE:=sB (bd n)
abbrev zC (z:Int):List aE:=[.int .i64 z.sign,bT z.natAbs]
abbrev zT (z:Int):aF:=.agg (zC z)
theorem Rj:DB 32768 []:=fun d hd=>by cases hd
theorem qE {n:Nat} (h:n=0):aE.Sub (.exact (.slice none 0 0)) (bT n):=by
 subst h;rw [bT,Bz];exact aE.Sub.nil
theorem sliceB {ds:List Nat} {x:Operand} {ty:Nat} {y:Operand} {k:IntKind} {n:Int} {m:Nat} (hm:n.toNat=m) (h0:0≤n:=by omega) (hn:m≤ds.length:=by omega):aV prog (.slice 45 x (some y) none none) ty [.one (sB ds), .one (.int k n)] (.one (sB (ds.drop m))):=by
 have:=Gb (P:=prog) (T:=45) (x:=x) (y:=y) (ty:=ty) (k:=k) (n:=n) (ts:=rB ds) eW h0 (by rw [aP,hm];exact hn);rw [hm,rB,←List.map_drop] at this;exact this
theorem YK {ds:List Nat} {x:Operand} {ty:Nat} {y:Operand} {k:IntKind} {n:Int} {m:Nat} (h0:0≤n:=by omega) (hm:n.toNat=m:=by omega) (hn:m≤ds.length:=by omega):aV prog (.slice 45 x none (some y) none) ty [.one (sB ds), .one (.int k n)] (.one (sB (ds.take m))):=by
 have:=FJ (P:=prog) (T:=45) (x:=x) (y:=y) (ty:=ty) (k:=k) (n:=n) (ts:=rB ds) eW h0 (by rw [aP,hm];exact hn);rw [hm,rB,←List.map_take] at this;exact this
theorem tP (ds:List Nat) (hd:DB 32768 ds) (hs:ds.length<4611686018427387904:=by omega):aN prog 260 [(.one (sB ds):aF)] (.ret [.one (bT (bv ds))]):=by
 refine cM func260 SZ ?_;refine bF {xs:List Nat // DB 32768 xs∧bv xs=bv ds∧xs.length≤ds.length} (fun g=>[.one (sB g.1)]) (fun g=>g.1.length) ⟨ds,hd,rfl,bB _⟩ aO.rfl (fun _=>rfl) ?_;rintro ⟨xs,hx,hv,hl⟩;dsimp only [aA,aB] at hx hv hl ⊢;apply vn (aQ eW (aP _)) rfl;dsimp only [aA,aB];apply vn eE rfl;dsimp only [aA,aB];refine vs _ rfl ?_ ?_<;>intro h3
 ·obtain ⟨d,hget⟩:∃ d,xs[0]? = some d:=⟨_,bI (by omega)⟩
  apply vn (aW eW hget) rfl;dsimp only [aA,aB];apply vn (bG NT) rfl;dsimp only [aA,aB];apply vn bQ rfl;dsimp only [aA,aB];refine vs _ rfl ?_ ?_<;>intro h7
  ·apply vn (sliceB rfl) rfl
   exact aR rfl ⟨⟨xs.drop 1,hx.drop 1,by
    have h7:d=0:=by omega
    rw [←hv,OL hget,h7,Nat.mul_zero,Nat.add_zero],by show (xs.drop 1).length≤_;rw [List.length_drop];omega⟩,aO.rfl,by show (xs.drop 1).length<xs.length;rw [List.length_drop];omega⟩
  have e:bd (bv ds)=xs:=by
   rw [←hv];refine aM1 hx fun d' h'=>?_;rw [List.head?_eq_getElem?,hget] at h';simp only [aJ] at h';subst h';omega
  rw [bT,e];exact aK rfl
 have e:bd (bv ds)=xs:=by
  have:xs = []:=List.eq_nil_of_length_eq_zero (by omega);rw [←hv,this];exact Bz
 rw [bT,e];exact aK rfl
theorem fX (s z:Int) (ds:List Nat) (hd:DB 32768 ds) (h1:z.natAbs=bv ds) (h2:bv ds≠0→z.sign=s) (hs:ds.length<4611686018427387904:=by omega):aN prog 211 [(.one (.int .i64 s):aF),(.one (sB ds):aF)] (.ret [zT z]):=by
 refine cM func211 XD ?_;have hlen:(bd (bv ds)).length=0↔bv ds=0:=by rw [List.length_eq_zero_iff,CE]
 have hl2:(bd (bv ds)).length≤ds.length:=jA (JY hd);apply aC (tP ds hd hs) rfl;dsimp only [aA,aB];apply vn (aQ eW (aP _)) rfl;dsimp only [aA,aB];apply vn bQ rfl;dsimp only [aA,aB];refine vs _ rfl ?_ ?_<;>intro h3
 ·have hz:z=0:=by
   have:=hlen.1 (by omega);omega
  subst hz;exact dK ⟨⟨aE.Sub.same,qE rfl,trivial⟩,trivial⟩
 refine aK ?_;rw [←h2 (fun h=>h3 (by have:=hlen.2 h;omega)),←h1];rfl
theorem HL {ds:List Nat} {m n:Nat} (hm:m≠0) (h:bv ds+32768^ds.length*m=n) (hn:n<18446744073709551616:=by omega):ds.length≤4:=by
 rcases Nat.lt_or_ge ds.length 5 with h1 | h1
 ·omega
 ·have h2:32768^5≤32768^ds.length:=Nat.pow_le_pow_right (by omega) h1;have h3:32768^ds.length≤32768^ds.length*m:=Nat.le_mul_of_pos_right _ (by omega);omega
theorem Ag {ds:List Nat} {m n:Nat} (h:bv ds+32768^ds.length*m=n):bv (m%32768::ds)+32768^(m%32768::ds).length*(m/32768)=n:=by
 rw [Bg,List.length_cons,Nat.pow_succ,Nat.add_assoc,Nat.mul_assoc,←Nat.mul_add,Nat.mod_add_div];exact h
theorem neg_tmod {m:Nat}:(-(m:Int)).tmod 32768 = -((m%32768:Nat):Int):=by rw [Int.neg_tmod,Int.tmod_eq_emod_of_nonneg (by omega)];omega
theorem neg_tdiv {m:Nat}:(-(m:Int)).tdiv 32768 = -((m/32768:Nat):Int):=by rw [Int.neg_tdiv,Int.tdiv_eq_ediv_of_nonneg (by omega)];omega
theorem oZ (n:Int) (h1:-9223372036854775808≤n:=by omega) (h2:n<9223372036854775808:=by omega):aN prog 139 [(.one (.int .i64 n):aF)] (.ret [zT n]):=by
 refine cM func139 WV ?_;apply vn bE rfl;dsimp only [aA,aB];refine vs _ rfl (fun h1=>?_) (fun h1'=>?_)
 ·refine bF {g:Nat×List Nat // bv g.2+32768^g.2.length*g.1=n.natAbs∧DB 32768 g.2∧g.1≤9223372036854775808∧g.2.length≤5} (fun g=>[.one (.int .i64 (-(g.1.1:Int))), .rows (rB g.1.2)]) (fun g=>g.1.1) ⟨(n.natAbs,[]),by simp [bv,val],Rj,by show n.natAbs≤_;omega,by simp⟩ ⟨aF.Sub.of_eq (congrArg (fun q=>aF.one (aE.int .i64 q)) (by show n = -((n.natAbs:Nat):Int);omega)),aF.Sub.same,trivial⟩ (fun _=>rfl) ?_;rintro ⟨⟨m,ds⟩,hv,hd,hm,hl⟩;dsimp only [aA,aB] at hv hd hm hl ⊢;apply vn gI rfl;dsimp only [aA,aB];refine vs _ rfl ?_ ?_<;>intro h4
  ·have hm0:m≠0:=by omega
   have hl4:=HL hm0 hv
   have hd2:DB 32768 (m%32768::ds):=fun d hd'=>by
    rcases List.mem_cons.1 hd' with rfl | hd'
    ·omega
    ·exact hd d hd'
   apply vn (CA (c:=-((m%32768:Nat):Int)) (by decide) neg_tmod) rfl;dsimp only [aA,aB];apply vn bE rfl;dsimp only [aA,aB];refine vs _ rfl ?_ ?_<;>intro h7
   ·apply vn (FA) rfl;dsimp only [aA,aB];refine bL (us:=rB [m%32768]) (by show [[aE.int .i64 _]] = [[aE.int .i64 _]];congr 3;omega) ?_;dsimp only [aA,aB];refine rP (ts:=rB [m%32768]) (us:=rB ds) (vs:=rB (m%32768::ds)) rfl rfl rfl (by simp;omega) (by simp [maxLen];omega) ?_;dsimp only [aA,aB];apply vn (qY (c:=-((m/32768:Nat):Int)) (by decide) (by rw [neg_tdiv];exact dV)) rfl;dsimp only [aA,aB];exact aR rfl ⟨⟨(m/32768,m%32768::ds),Ag hv,hd2,by show m/32768≤_;omega,by show ds.length+1≤5;omega⟩,aO.rfl,by show m/32768<m;omega⟩
   refine bL (us:=rB [m%32768]) (by show [[aE.int .i64 _]] = [[aE.int .i64 _]];congr 3;omega) ?_;dsimp only [aA,aB];refine rP (ts:=rB [m%32768]) (us:=rB ds) (vs:=rB (m%32768::ds)) rfl rfl rfl (by simp;omega) (by simp [maxLen];omega) ?_;dsimp only [aA,aB];apply vn (qY (c:=-((m/32768:Nat):Int)) (by decide) (by rw [neg_tdiv];exact dV)) rfl;dsimp only [aA,aB];exact aR rfl ⟨⟨(m/32768,m%32768::ds),Ag hv,hd2,by show m/32768≤_;omega,by show ds.length+1≤5;omega⟩,aO.rfl,by show m/32768<m;omega⟩
  have hm0:m=0:=by omega
  subst hm0;rw [Nat.mul_zero,Nat.add_zero] at hv;apply aC (fX (-1) n ds hd hv.symm (fun _=>Int.sign_eq_neg_one_of_neg h1)) rfl;exact aK rfl
 refine bF {g:Nat×List Nat // bv g.2+32768^g.2.length*g.1=n.natAbs∧DB 32768 g.2∧g.1≤9223372036854775808∧g.2.length≤5∧g.1<9223372036854775808} (fun g=>[.one (.int .i64 (g.1.1:Int)), .rows (rB g.1.2)]) (fun g=>g.1.1) ⟨(n.natAbs,[]),by simp [bv,val],Rj,by show n.natAbs≤_;omega,by simp,by show n.natAbs<_;omega⟩ ⟨aF.Sub.of_eq (congrArg (fun q=>aF.one (aE.int .i64 q)) (by show n=((n.natAbs:Nat):Int);omega)),aF.Sub.same,trivial⟩ (fun _=>rfl) ?_;rintro ⟨⟨m,ds⟩,hv,hd,hm,hl,hmm⟩;dsimp only [aA,aB] at hv hd hm hl hmm ⊢;apply vn gI rfl;dsimp only [aA,aB];refine vs _ rfl ?_ ?_<;>intro h21
 ·have hm0:m≠0:=by omega
  have hl4:=HL hm0 hv
  have hd2:DB 32768 (m%32768::ds):=fun d hd'=>by
   rcases List.mem_cons.1 hd' with rfl | hd'
   ·omega
   ·exact hd d hd'
  apply vn (eO) rfl;dsimp only [aA,aB];apply vn bE rfl;dsimp only [aA,aB];refine vs _ rfl ?_ ?_<;>intro h24
  ·exfalso;omega
  refine bL (us:=rB [m%32768]) (by show [[aE.int .i64 _]] = [[aE.int .i64 _]];congr 3) ?_;dsimp only [aA,aB];refine rP (ts:=rB [m%32768]) (us:=rB ds) (vs:=rB (m%32768::ds)) rfl rfl rfl (by simp;omega) (by simp [maxLen];omega) ?_;dsimp only [aA,aB];apply vn (gU) rfl;dsimp only [aA,aB];exact aR rfl ⟨⟨(m/32768,m%32768::ds),Ag hv,hd2,by show m/32768≤_;omega,by show ds.length+1≤5;omega,by show m/32768<_;omega⟩,aO.rfl,by show m/32768<m;omega⟩
 have hm0:m=0:=by omega
 subst hm0;rw [Nat.mul_zero,Nat.add_zero] at hv;apply aC (fX 1 n ds hd hv.symm (fun h=>Int.sign_eq_one_of_pos (by omega))) rfl;exact aK rfl
theorem Ic {xs ys:List Nat} (hx:DB 32768 xs) {i x y:Nat} (hl:xs.length=ys.length) (hi:xs[i]? = some x) (hj:ys[i]? = some y) (ht:xs.take i=ys.take i) (hxy:x<y:=by omega):bv xs<bv ys:=by
 have e:∀ (zs:List Nat) (z:Nat),zs[i]? = some z→bv zs=bv (zs.take i)*32768^(zs.length-i)+(bv (zs.drop (i+1))+32768^(zs.length-(i+1))*z):=fun zs z hz=>by
  have hlt:i<zs.length:=(dS.1 hz).1
  conv=>lhs;rw [←List.take_append_drop i zs]
  rw [PL,List.length_drop]
  congr 1
  rw [List.drop_eq_getElem_cons hlt,(dS.1 hz).2,Bg,List.length_drop]
 rw [e xs x hi,e ys y hj,ht,hl];have h1:=JY (hx.drop (i+1));rw [List.length_drop,hl] at h1;have h2:32768^(ys.length-(i+1))*(x+1)≤32768^(ys.length-(i+1))*y:=Nat.mul_le_mul_left _ hxy;rw [Nat.mul_add,Nat.mul_one] at h2;omega
theorem vW {a b:Nat} (h:(bd a).length<(bd b).length:=by omega):a<b:=by
 rcases Nat.lt_or_ge a b with h1 | h1
 ·exact h1
 ·have:=fG h1;omega
theorem qL (a b:Nat) (hs:(bd a).length+(bd b).length<1099511627776:=by omega):aN prog 215 [(.one (bT a):aF),(.one (bT b):aF)] (.ret [.one (.int .i64 (eP a b))]):=by
 refine cM func215 Tc ?_;apply vn (aQ eW (aP _)) rfl;dsimp only [aA,aB];apply vn (aQ eW (aP _)) rfl;dsimp only [aA,aB];apply vn gI rfl;dsimp only [aA,aB];refine vs _ rfl ?_ ?_<;>intro h3
 ·apply vn (aQ eW (aP _)) rfl;dsimp only [aA,aB];apply vn (aQ eW (aP _)) rfl;dsimp only [aA,aB];apply vn bE rfl;dsimp only [aA,aB];refine vs _ rfl ?_ ?_<;>intro h7
  ·rw [uK (by have:=vW (a:=a) (b:=b);omega)];exact aK rfl
  rw [uQ (by have:=vW (a:=b) (b:=a);omega)];exact aK rfl
 have hlen:(bd a).length=(bd b).length:=by omega
 refine bF {i:Nat // i≤(bd a).length∧(bd a).take i=(bd b).take i} (fun g=>[.one (.int .i64 0), .one (.int .i64 g.1)]) (fun g=>(bd a).length-g.1) ⟨0,bR _,rfl⟩ aO.rfl (fun _=>rfl) ?_;rintro ⟨i,hi,ht⟩;dsimp only [aA,aB] at hi ht ⊢;apply vn (aQ eW (aP _)) rfl;dsimp only [aA,aB];apply vn bE rfl;dsimp only [aA,aB];refine vs _ rfl ?_ ?_<;>intro h13
 ·obtain ⟨x,hx⟩:∃ x,(bd a)[i]? = some x:=⟨_,bI (by omega)⟩
  obtain ⟨y,hy⟩:∃ y,(bd b)[i]? = some y:=⟨_,bI (by omega)⟩
  apply vn (aW eW hx) rfl;dsimp only [aA,aB];apply vn (bG NT) rfl;dsimp only [aA,aB];apply vn (aW eW hy) rfl;dsimp only [aA,aB];apply vn (bG NT) rfl;dsimp only [aA,aB];apply vn bE rfl;dsimp only [aA,aB];refine vs _ rfl ?_ ?_<;>intro h19
  ·have:=Ic (gX a) hlen hx hy ht;rw [fL,fL] at this;rw [uK (by omega)];exact aK rfl
  apply vn (aW eW hx) rfl;dsimp only [aA,aB];apply vn (bG NT) rfl;dsimp only [aA,aB];apply vn (aW eW hy) rfl;dsimp only [aA,aB];apply vn (bG NT) rfl;dsimp only [aA,aB];apply vn eE rfl;dsimp only [aA,aB];refine vs _ rfl ?_ ?_<;>intro h26
  ·have:=Ic (gX b) hlen.symm hy hx ht.symm;rw [fL,fL] at this;rw [uQ (by omega)];exact aK rfl
  apply vn (aD) rfl;dsimp only [aA,aB];exact aR rfl ⟨⟨i+1,by omega,by rw [take_succ hx,take_succ hy,ht,show x=y by omega]⟩,aO.rfl,by show (bd a).length-(i+1)<(bd a).length-i;omega⟩
 have hie:i=(bd a).length:=by omega
 subst hie
 have e:bd a=bd b:=by
  rw [List.take_length,List.take_of_length_le (by omega)] at ht;exact ht
 have:a=b:=by rw [←fL a,e,fL]
 rw [this,Br];exact aK rfl
theorem BM (n i:Nat) (hs:(bd n).length<1099511627776:=by omega) (hi:i<4611686018427387904:=by omega):aN prog 263 [(.one (bT n):aF),(.one (.int .i64 i):aF)] (.ret [.one (.int .i64 ((n/32768^i%32768:Nat):Int))]):=by
 refine cM func263 Tv ?_;have hdg:=HT n i;apply vn (aQ eW (aP _)) rfl;dsimp only [aA,aB];apply vn fJ rfl;dsimp only [aA,aB];refine vs _ rfl ?_ ?_<;>intro h2
 ·rw [List.getElem?_eq_none_iff.2 (by rw [List.length_reverse];omega)] at hdg;rw [←hdg];exact aK rfl
 apply vn (aQ eW (aP _)) rfl;dsimp only [aA,aB];apply vn (aI) rfl;dsimp only [aA,aB];apply vn (aI) rfl;dsimp only [aA,aB];obtain ⟨d,hd⟩:∃ d,(bd n).reverse[i]? = some d:=⟨_,bI (by rw [List.length_reverse];omega)⟩
 have hd2:(bd n)[(bd n).length-1-i]? = some d:=by rw [Bj];exact hd
 rw [hd] at hdg;apply vn (aW eW hd2) rfl;dsimp only [aA,aB];apply vn (bG NT) rfl;dsimp only [aA,aB];rw [←hdg];exact aK rfl
theorem Lb (a b:Nat):aN prog 262 [(.one (bT a):aF),(.one (bT b):aF)] (.ret [.one (.int .i64 ((max (bd a).length (bd b).length:Nat):Int))]):=by
 refine cM func262 KH ?_;apply vn (aQ eW (aP _)) rfl;dsimp only [aA,aB];apply vn (aQ eW (aP _)) rfl;dsimp only [aA,aB];apply vn eE rfl;dsimp only [aA,aB];refine vs _ rfl ?_ ?_<;>intro h3
 ·apply vn (aQ eW (aP _)) rfl;dsimp only [aA,aB];refine aK ?_;show [aF.one (aE.int .i64 _)] = [aF.one (aE.int .i64 _)]
  congr 3;omega
 apply vn (aQ eW (aP _)) rfl;dsimp only [aA,aB];refine aK ?_;show [aF.one (aE.int .i64 _)] = [aF.one (aE.int .i64 _)]
 congr 3;omega
theorem val_rev (n:Nat):val 32768 (bd n).reverse=n:=fL n
theorem Iq (n i:Nat):(bd n).reverse[i]?.getD 0=n/32768^i%32768:=HT n i
set_option maxHeartbeats 1000000 in
theorem kK (a b r:Nat) (k:Int) (hk:k=1∨k = -1) (hs2:(bd b).length<274877906944:=by omega) (hr:(r:Int)=a+k*b:=by omega) (hs:(bd a).length<274877906944:=by omega):aN prog 214 [(.one (bT a):aF),(.one (bT b):aF),(.one (.int .i64 k):aF)] (.ret [.one (bT r)]):=by
 refine cM func214 Xe ?_;obtain ⟨n,hn⟩:∃ n,max (bd a).length (bd b).length+1=n:=⟨_,rfl⟩
 have hrl:r<32768^n:=by
  have h1:=Cn a;have h2:=Cn b;have h3:32768^(bd a).length≤32768^(n-1):=Nat.pow_le_pow_right (by omega) (by omega);have h4:32768^(bd b).length≤32768^(n-1):=Nat.pow_le_pow_right (by omega) (by omega);have h5:32768^n=32768^(n-1)*32768:=by rw [←Nat.pow_succ];congr 1;omega
  rcases hk with rfl | rfl<;>omega
 apply aC (Lb a b) rfl;dsimp only [aA,aB];apply vn (aD) rfl;dsimp only [aA,aB];refine BF (n:=n) (f:=fun d:Nat=>[aE.int .i64 (d:Int)]) 0 rfl rfl (by omega) rfl (by omega) (by simp only [maxLen];omega) ?_;dsimp only [aA,aB];refine bF {g:Nat×Int×List Nat // Ec 32768 (bd a).reverse (bd b).reverse n k g.1 g.2.1 g.2.2} (fun g=>[.one (.int .i64 g.1.2.1), .one (.int .i64 g.1.1), .rows (rB g.1.2.2.reverse)]) (fun g=>n-g.1.1) ⟨(0,0,List.replicate n 0),Ec.init (by omega) _ _ _ _⟩ ⟨aF.Sub.same,aF.Sub.same,aF.Sub.of_eq (by rw [List.reverse_replicate];rfl),trivial⟩ (fun _=>rfl) ?_;rintro ⟨⟨i,c,os⟩,hI⟩;dsimp only [aA,aB] at hI ⊢;have hil:=hI.le;have hol:=hI.len;have hc0:=hI.c0;have hc1:=hI.c1;apply vn bE rfl;dsimp only [aA,aB];refine vs _ rfl ?_ ?_<;>intro h5
 ·obtain ⟨x,hx⟩:∃ x,a/32768^i%32768=x:=⟨_,rfl⟩
  obtain ⟨y,hy⟩:∃ y,b/32768^i%32768=y:=⟨_,rfl⟩
  have hxB:x<32768:=by rw [←hx];exact Nat.mod_lt _ (by omega)
  have hyB:y<32768:=by rw [←hy];exact Nat.mod_lt _ (by omega)
  have hcall1:=BM a i;have hcall2:=BM b i;rw [hx] at hcall1;rw [hy] at hcall2
  have hnext:∀ (z:Nat) (c':Int),z<32768 → -1≤c'→c'≤1→(z:Int)+32768*c'=x+k*y+c→Ec 32768 (bd a).reverse (bd b).reverse n k (i+1) c' (os.set i z):=fun z c' h1 h2 h3 h4=>
   hI.next (by omega) (by rw [Iq,hx]) (by rw [Iq,hy]) h2 h3 h1 h4
  have hst:∀ z,os.reverse.set (n-1-i) z=(os.set i z).reverse:=fun z=>by rw [←hol];exact Hv (by omega)
  obtain ⟨o0,hgo⟩:∃ o0,os.reverse[n-1-i]? = some o0:=⟨_,bI (by rw [List.length_reverse];omega)⟩
  have hky:k*y=y∨k*y = -(y:Int):=by rcases hk with rfl | rfl<;>simp
  generalize hkyv:k*(y:Int)=ky at hnext hky;apply aC hcall1 rfl;dsimp only [aA,aB];apply aC hcall2 rfl;dsimp only [aA,aB];apply vn (rY (c:=ky) (by rw [hkyv];exact dV)) rfl;dsimp only [aA,aB];apply vn (aD) rfl;dsimp only [aA,aB];apply vn (aD) rfl;dsimp only [aA,aB];apply vn bE rfl;dsimp only [aA,aB];refine vs _ rfl ?_ ?_<;>intro h12
  ·apply vn (aD) rfl;dsimp only [aA,aB];apply vn fJ rfl;dsimp only [aA,aB];refine vs _ rfl ?_ ?_<;>intro h15
   ·exfalso;omega
   apply vn (aI) rfl;dsimp only [aA,aB];apply vn (aI) rfl;dsimp only [aA,aB];refine dE rfl rfl (by omega) (by rw [List.length_reverse];omega) ?_;refine mM (d':=(x+ky+c+32768).toNat) rfl rfl (by omega) (by omega) hgo (by show [aE.int .i64 _] = [aE.int .i64 _];congr 2;omega) ?_;rw [hst];dsimp only [aA,aB];apply vn (aD) rfl;dsimp only [aA,aB];exact aR rfl ⟨⟨(i+1,-1,os.set i (x+ky+c+32768).toNat),hnext _ (-1) (by omega) (by omega) (by omega) (by omega)⟩,aO.rfl,by show n-(i+1)<n-i;omega⟩
  apply vn fJ rfl;dsimp only [aA,aB];refine vs _ rfl ?_ ?_<;>intro h30
  ·apply vn (aI) rfl;dsimp only [aA,aB];apply vn (aI) rfl;dsimp only [aA,aB];apply vn (aI) rfl;dsimp only [aA,aB];refine dE rfl rfl (by omega) (by rw [List.length_reverse];omega) ?_;refine mM (d':=(x+ky+c-32768).toNat) rfl rfl (by omega) (by omega) hgo (by show [aE.int .i64 _] = [aE.int .i64 _];congr 2;omega) ?_;rw [hst];dsimp only [aA,aB];apply vn (aD) rfl;dsimp only [aA,aB];exact aR rfl ⟨⟨(i+1,1,os.set i (x+ky+c-32768).toNat),hnext _ 1 (by omega) (by omega) (by omega) (by omega)⟩,aO.rfl,by show n-(i+1)<n-i;omega⟩
  apply vn (aI) rfl;dsimp only [aA,aB];apply vn (aI) rfl;dsimp only [aA,aB];refine dE rfl rfl (by omega) (by rw [List.length_reverse];omega) ?_;refine mM (d':=(x+ky+c).toNat) rfl rfl (by omega) (by omega) hgo (by show [aE.int .i64 _] = [aE.int .i64 _];congr 2;omega) ?_;rw [hst];dsimp only [aA,aB];apply vn (aD) rfl;dsimp only [aA,aB];exact aR rfl ⟨⟨(i+1,0,os.set i (x+ky+c).toNat),hnext _ 0 (by omega) (by omega) (by omega) (by omega)⟩,aO.rfl,by show n-(i+1)<n-i;omega⟩
 have hie:i=n:=by omega
 subst hie;have hf:=hI.fin (by omega) (by rw [List.length_reverse];omega) (by rw [List.length_reverse];omega) (r:=r) (by rw [val_rev,val_rev];exact hr) hrl;apply aC (tP os.reverse hI.dg.rev (by rw [List.length_reverse];omega)) rfl;dsimp only [aA,aB];refine aK ?_;rw [←hf,bv,List.reverse_reverse];rfl
open Go Go.Proofs Tryz Ord
theorem Bt (z:Int):-1≤z.sign∧z.sign≤1:=by rcases cK z with ⟨_,e⟩ | ⟨_,e⟩ | ⟨_,e⟩<;>omega
theorem BB (z:Int):aN prog 183 [(zT z:aF)] (.ret [zT (-z)]):=by
 refine cM func183 XI ?_;have:=Bt z;apply vn (FA) rfl;dsimp only [aA,aB];refine aK ?_;show [aF.agg [.int .i64 (-z.sign),bT z.natAbs]] = [zT (-z)];rw [zT,zC,Int.sign_neg,Int.natAbs_neg]
theorem Mj (z:Int):aN prog 148 [(zT z:aF)] (.ret [zT (z.natAbs:Int)]):=by
 refine cM func148 YV ?_
 apply vn (rY (c:=((z.natAbs:Nat):Int).sign) (by
  rcases cK z with ⟨h,e⟩ | ⟨h,e⟩ | ⟨h,e⟩<;>rw [e]
  ·rw [Int.sign_eq_one_of_pos (by omega)];exact dV
  ·rw [h];exact dV
  ·rw [Int.sign_eq_one_of_pos (by omega)];exact dV)) rfl
 exact aK rfl
theorem ap2 {a b:Nat}:(bd (a+b)).length≤max (bd a).length (bd b).length+1:=by
 apply jA;have h1:=Cn a;have h2:=Cn b;have h3:32768^(bd a).length≤32768^(max (bd a).length (bd b).length):=Nat.pow_le_pow_right (by omega) (by omega);have h4:32768^(bd b).length≤32768^(max (bd a).length (bd b).length):=Nat.pow_le_pow_right (by omega) (by omega);rw [Nat.pow_succ];omega
theorem Mo (x y:Int) (hx:(bd x.natAbs).length<137438953472) (hy:(bd y.natAbs).length<137438953472):aN prog 138 [(zT x:aF),(zT y:aF)] (.ret [zT (x+y)]):=by
 refine cM func138 Vq ?_;have hx0:=cK x;have hy0:=cK y
 have hl:∀ n,n≤x.natAbs+y.natAbs→(bd n).length<274877906944:=fun n hn=>by
  have h1:=fG hn;have h2:=ap2 (a:=x.natAbs) (b:=y.natAbs);omega
 apply vn bQ rfl;dsimp only [aA,aB];refine vs _ rfl ?_ ?_<;>intro h1
 ·rw [show x=0 by omega,Int.zero_add];exact aK rfl
 apply vn bQ rfl;dsimp only [aA,aB];refine vs _ rfl ?_ ?_<;>intro h4
 ·rw [show y=0 by omega,Int.add_zero];exact aK rfl
 apply vn bQ rfl;dsimp only [aA,aB];refine vs _ rfl ?_ ?_<;>intro h7
 ·apply aC (kK x.natAbs y.natAbs (x.natAbs+y.natAbs) 1 (.inl rfl)) rfl;dsimp only [aA,aB]
  apply aC (fX x.sign (x+y) _ (gX _) (by rw [fL];omega) (fun _=>by
   rcases hx0 with ⟨h,e⟩ | ⟨h,e⟩ | ⟨h,e⟩
   ·rw [e];exact Int.sign_eq_neg_one_of_neg (by omega)
   ·omega
   ·rw [e];exact Int.sign_eq_one_of_pos (by omega)) (by have:=hl _ (bB _);omega)) rfl
  exact aK rfl
 apply aC (qL x.natAbs y.natAbs) rfl;dsimp only [aA,aB];apply vn fJ rfl;dsimp only [aA,aB]
 have hci:(0≤eP (x.natAbs:Int) (y.natAbs:Int))↔y.natAbs≤x.natAbs:=by
  have:=sX (a:=(x.natAbs:Int)) (b:=(y.natAbs:Int));omega
 refine vs _ rfl ?_ ?_<;>intro h13
 ·apply aC (kK x.natAbs y.natAbs (x.natAbs-y.natAbs) (-1) (.inr rfl)) rfl;dsimp only [aA,aB]
  apply aC (fX x.sign (x+y) _ (gX _) (by rw [fL];omega) (fun hne=>by
   rw [fL] at hne;rcases hx0 with ⟨h,e⟩ | ⟨h,e⟩ | ⟨h,e⟩
   ·rw [e];exact Int.sign_eq_neg_one_of_neg (by omega)
   ·omega
   ·rw [e];exact Int.sign_eq_one_of_pos (by omega)) (by have:=hl (x.natAbs-y.natAbs) (by omega);omega)) rfl
  exact aK rfl
 apply aC (kK y.natAbs x.natAbs (y.natAbs-x.natAbs) (-1) (.inr rfl)) rfl;dsimp only [aA,aB]
 apply aC (fX y.sign (x+y) _ (gX _) (by rw [fL];omega) (fun hne=>by
  rw [fL] at hne;rcases hy0 with ⟨h,e⟩ | ⟨h,e⟩ | ⟨h,e⟩
  ·rw [e];exact Int.sign_eq_neg_one_of_neg (by omega)
  ·omega
  ·rw [e];exact Int.sign_eq_one_of_pos (by omega)) (by have:=hl (y.natAbs-x.natAbs) (by omega);omega)) rfl
 exact aK rfl
theorem XM (x y:Int) (hx:(bd x.natAbs).length<137438953472) (hy:(bd y.natAbs).length<137438953472):aN prog 210 [(zT x:aF),(zT y:aF)] (.ret [zT (x-y)]):=by
 refine cM func210 Xo ?_;apply aC (BB y) rfl;dsimp only [aA,aB];apply aC (Mo x (-y) hx (by rw [Int.natAbs_neg];exact hy)) rfl;rw [←Int.sub_eq_add_neg];exact aK rfl
theorem UM (x y:Int):(x-y).sign=eP x y:=by
 unfold eP;rcases cK (x-y) with ⟨h,e⟩ | ⟨h,e⟩ | ⟨h,e⟩<;>rw [e]
 ·rw [if_pos (by omega)]
 ·rw [if_neg (by omega),if_neg (by omega)]
 ·rw [if_neg (by omega),if_pos (by omega)]
theorem Vj (x y:Int) (hx:(bd x.natAbs).length<137438953472) (hy:(bd y.natAbs).length<137438953472):aN prog 134 [(zT x:aF),(zT y:aF)] (.ret [.one (.int .i64 (eP x y))]):=by
 refine cM func134 Yq ?_;apply aC (XM x y hx hy) rfl;dsimp only [aA,aB];rw [←UM];exact aK rfl
theorem NO {n la i:Nat} (h:la=(bd n).length) (hi:i<la:=by omega):∃ d,(bd n)[la-1-i]? = some d∧(bd n).reverse[i]? = some d∧d<32768:=by
 subst h;have hd:(bd n).reverse[i]? = some ((bd n).reverse[i]'(by rw [List.length_reverse];exact hi)):=bI _;exact ⟨_,by rw [Bj hi];exact hd,hd,(gX n).rev.get hd⟩
set_option maxHeartbeats 2000000 in
theorem jM (x y:Int) (hs:(bd x.natAbs).length+(bd y.natAbs).length<274877906944:=by omega):aN prog 135 [(zT x:aF),(zT y:aF)] (.ret [zT (x*y)]):=by
 refine cM func135 Wt ?_;obtain ⟨la,hla⟩:∃ n,(bd x.natAbs).length=n:=⟨_,rfl⟩
 obtain ⟨lb,hlb⟩:∃ n,(bd y.natAbs).length=n:=⟨_,rfl⟩
 have hra:(bd x.natAbs).reverse.length=la:=by rw [List.length_reverse,hla]
 have hrb:(bd y.natAbs).reverse.length=lb:=by rw [List.length_reverse,hlb]
 have hsx:=Bt x;have hsy:=Bt y;apply vn (aQ eW (aP _)) rfl;dsimp only [aA,aB];apply vn (aQ eW (aP _)) rfl;dsimp only [aA,aB];apply vn (aD) rfl;dsimp only [aA,aB];rw [hla,hlb];refine BF (n:=la+lb) (f:=fun d:Nat=>[aE.int .i64 (d:Int)]) 0 rfl rfl (by omega) rfl (by omega) (by simp only [maxLen];omega) ?_;dsimp only [aA,aB];apply vn (aQ eW (aP _)) rfl;dsimp only [aA,aB];apply vn (aI) rfl;dsimp only [aA,aB];rw [hla];refine bF {g:Nat×List Nat // Es 32768 (bd x.natAbs).reverse (bd y.natAbs).reverse g.1 g.2} (fun g=>[.one (.int .i64 ((la:Int)-1-g.1.1)), .rows (rB g.1.2.reverse)]) (fun g=>la-g.1.1) ⟨(0,List.replicate (la+lb) 0),by have:=Es.init (B:=32768) (by omega) (bd x.natAbs).reverse (bd y.natAbs).reverse;rw [hra,hrb] at this;exact this⟩ ⟨aF.Sub.of_eq (congrArg (fun q=>aF.one (aE.int .i64 q)) (by show (la:Int)-1=(la:Int)-1-((0:Nat):Int);omega)),aF.Sub.of_eq (by rw [List.reverse_replicate];rfl),trivial⟩ (fun _=>rfl) ?_;rintro ⟨⟨i,os⟩,hO⟩;dsimp only [aA,aB] at hO ⊢;have hil:=hO.le;rw [hra] at hil;apply vn fJ rfl;dsimp only [aA,aB];refine vs _ rfl ?_ ?_<;>intro h8
 ·apply vn (aQ eW (aP _)) rfl;obtain ⟨d,hd1,hd2,hd3⟩:=NO (n:=x.natAbs) (la:=la) (i:=i) hla.symm;dsimp only [aA,aB];apply vn (aI) rfl;dsimp only [aA,aB];rw [hlb];refine bF {g:Nat×Nat×List Nat // BIn 32768 (bd x.natAbs).reverse (bd y.natAbs).reverse i d (val 32768 ((bd x.natAbs).reverse.take i)*val 32768 (bd y.natAbs).reverse) g.1 g.2.1 g.2.2} (fun g=>[.one (.int .i64 g.1.2.1), .one (.int .i64 ((lb:Int)-1-g.1.1)), .rows (rB g.1.2.2.reverse)]) (fun g=>lb-g.1.1) ⟨(0,0,os),hO.inn (by omega)⟩ ⟨aF.Sub.same,aF.Sub.of_eq (congrArg (fun q=>aF.one (aE.int .i64 q)) (by show (lb:Int)-1=(lb:Int)-1-((0:Nat):Int);omega)),aF.Sub.same,trivial⟩ (fun _=>rfl) ?_;rintro ⟨⟨k,c,os2⟩,hI⟩;dsimp only [aA,aB] at hI ⊢;have hkl:=hI.le;have hol:=hI.len;have hc1:=hI.c1;rw [hrb] at hkl;rw [hra,hrb] at hol;apply vn fJ rfl;dsimp only [aA,aB];refine vs _ rfl ?_ ?_<;>intro h13
  ·apply vn (aD) rfl;dsimp only [aA,aB];apply vn (aD) rfl;dsimp only [aA,aB];obtain ⟨e,he1,he2,he3⟩:=NO (n:=y.natAbs) (la:=lb) (i:=k) hlb.symm;obtain ⟨o,ho2⟩:∃ o,os2[i+k]? = some o:=⟨_,bI (by omega)⟩
   have ho1:os2.reverse[la+lb-1-(i+k)]? = some o:=by
    have:=Bj (ds:=os2.reverse) (i:=i+k) (by rw [List.length_reverse];omega);rw [List.reverse_reverse,List.length_reverse,hol] at this;rw [this];exact ho2
   have hoB:=hI.dg.get ho2;have hde:d*e≤32767*32767:=Nat.mul_le_mul (by omega) (by omega);have hst:∀ z,os2.reverse.set (la+lb-1-(i+k)) z=(os2.set (i+k) z).reverse:=fun z=>by rw [←hol];exact Hv (by omega)
   obtain ⟨w,hw⟩:∃ w,c+(d*e+o)=w:=⟨_,rfl⟩
   have hN:=hI.next (z:=w%32768) (c':=w/32768) (by rw [hrb];omega) he2 ho2 (by omega) (by omega) (by omega);refine dE rfl rfl (by omega) (by rw [List.length_reverse];omega) ?_;refine qU rfl rfl (by omega) (by omega) ho1 rfl ?_;dsimp only [aA,aB];apply vn (aW eW hd1) rfl;dsimp only [aA,aB];apply vn (bG NT) rfl;dsimp only [aA,aB];apply vn (aW eW he1) rfl;dsimp only [aA,aB];apply vn (bG NT) rfl;dsimp only [aA,aB];apply vn (rY (c:=((d*e:Nat):Int)) (by rw [←Int.natCast_mul];exact dV)) rfl;dsimp only [aA,aB];apply vn (aD) rfl;dsimp only [aA,aB];apply vn (dZ (c:=(w:Int)) (by rw [show (o:Int)+((d*e:Nat):Int)+(c:Int)=(w:Int) by omega];exact dV)) rfl;dsimp only [aA,aB];apply vn (aD) rfl;dsimp only [aA,aB];apply vn (aD) rfl;dsimp only [aA,aB];apply vn (eO) rfl;dsimp only [aA,aB];refine dE rfl rfl (by omega) (by rw [List.length_reverse];omega) ?_;refine mM (d':=w%32768) rfl rfl (by omega) (by omega) ho1 rfl ?_;rw [hst];dsimp only [aA,aB];apply vn (gU) rfl;dsimp only [aA,aB];apply vn (aI) rfl;dsimp only [aA,aB];exact aR rfl ⟨⟨(k+1,w/32768,os2.set (i+k) (w%32768)),hN⟩,⟨aF.Sub.same,aF.Sub.of_eq (congrArg (fun q=>aF.one (aE.int .i64 q)) (by show (lb:Int)-1-(k:Int)-1=(lb:Int)-1-((k+1:Nat):Int);omega)),aF.Sub.same,trivial⟩,by show lb-(k+1)<lb-k;omega⟩
  have hke:k=lb:=by omega
  subst hke;obtain ⟨o,ho2⟩:∃ o,os2[i+k]? = some o:=⟨_,bI (by omega)⟩
  have ho1:os2.reverse[la+k-1-(i+k)]? = some o:=by
   have:=Bj (ds:=os2.reverse) (i:=i+k) (by rw [List.length_reverse];omega);rw [List.reverse_reverse,List.length_reverse,hol] at this;rw [this];exact ho2
  have hst:∀ z,os2.reverse.set (la+k-1-(i+k)) z=(os2.set (i+k) z).reverse:=fun z=>by rw [←hol];exact Hv (by omega)
  have hN:Es 32768 (bd x.natAbs).reverse (bd y.natAbs).reverse (i+1) (os2.set (i+k) c):=by
   have:=hI;rw [←hrb] at this ⊢;exact this.out hd2
  refine dE rfl rfl (by omega) (by rw [List.length_reverse];omega) ?_;refine mM (d':=c) rfl rfl (by omega) (by omega) ho1 rfl ?_;rw [hst];dsimp only [aA,aB];apply vn (aI) rfl;dsimp only [aA,aB];exact aR rfl ⟨⟨(i+1,os2.set (i+k) c),hN⟩,⟨aF.Sub.of_eq (congrArg (fun q=>aF.one (aE.int .i64 q)) (by show (la:Int)-1-(i:Int)-1=(la:Int)-1-((i+1:Nat):Int);omega)),aF.Sub.same,trivial⟩,by show la-(i+1)<la-i;omega⟩
 have hie:i=la:=by omega
 subst hie
 have hf:val 32768 os=x.natAbs*y.natAbs:=by
  have:=hO;rw [←hra] at this;have:=this.fin;rw [val_rev,val_rev] at this;exact this
 have hol:=hO.len;rw [hra,hrb] at hol;have hmul:x.sign*y.sign=(x*y).sign:=(Int.sign_mul x y).symm;have hsb:=Bt (x*y);apply vn (rY (c:=(x*y).sign) (by rw [hmul];exact dV)) rfl;dsimp only [aA,aB];apply aC (fX (x*y).sign (x*y) os.reverse hO.dg.rev (by rw [bv,List.reverse_reverse,hf,Int.natAbs_mul]) (fun _=>rfl) (by rw [List.length_reverse];omega)) rfl;exact aK rfl
open Go Go.Proofs Tryz Ord
def ZZ:Tr:=.back 0 [lV 10 0,lV 11 0]
def aH6:Tr:=.split (.u 5 0) (bA .mul 3 14 32768 3 0 3 (bA .sub 3 17 1 1 0 3 (bM .sub 3 18 19 7 0 4 0 3 (aM 263 [(W 0 0),(W 8 0)] [none] [16,20] [45,3] 3 true (bM .add 3 15 21 6 0 9 0 3 (bA .add 3 12 1 4 0 3 ZZ)))))) (.ret [(W 3 0)])
def aT9:Tr:=.loop 0 [lK 0,lK 0] (bM .lss 3 9 10 4 0 2 0 4 aH6)
theorem UJ:aL prog f284 (fun _=>none) [.v none, .v none, .v none]=aT9:=by kernel_rfl
def au9:Tr:=.loop 0 [lV 14 0,lV 10 0] (aM 215 [(W 15 0),(W 1 0)] [none] [46,47] [45,45] 3 true (bA .geq 3 48 0 17 0 4 (.split (.u 18 0) (.need (.call 214 [(W 15 0),(W 1 0),(WK (-1))] [none]) (.call ⟨.value (.func 214),#[(tT 50),(tT 51),(.const (I3 (-1)))],#[45,45,3]⟩) 45 true (bA .add 3 53 1 16 0 3 (.back 0 [lV 19 0,lV 20 0]))) (.ret [(W 16 0),(W 15 0)]))))
def ag4:Tr:=.loop 0 [lV 0 0,lV 10 0] (aM 215 [(W 12 0),(W 1 0)] [none] [46,47] [45,45] 3 true (bA .geq 3 48 0 14 0 4 (.split (.u 15 0) (.need (.call 214 [(W 12 0),(W 1 0),(WK (-1))] [none]) (.call ⟨.value (.func 214),#[(tT 50),(tT 51),(.const (I3 (-1)))],#[45,45,3]⟩) 45 true (bA .add 3 53 1 13 0 3 (.back 0 [lV 16 0,lV 17 0]))) (.ret [(W 13 0),(W 12 0)]))))
def Ui:Tr:=bA .gtr 3 36 0 10 0 4 (.split (.u 11 0) (aM 139 [(W 10 0)] [(some 2)] [39] [2] 47 false (aM 135 [(G2 12),(.agg [(tE (.int .i64 1)),(U 1 0)])] [(some 2)] [40,42] [47,47] 47 true (.need (.call 214 [(W 0 0),(W 13 1),(WK (-1))] [none]) (.call ⟨.value (.func 214),#[(tT 38),(tT 44),(.const (I3 (-1)))],#[45,45,3]⟩) 45 true au9))) ag4)
def aQ7:Tr:=bA .leq 3 14 3 2 0 4 (.split (.u 5 0) (bA .add 3 17 1 2 0 3 (bA .add 3 19 1 2 0 3 (aM 284 [(W 0 0),(W 6 0),(W 7 0)] [none] [16,18,20] [45,3,3] 3 false (aM 284 [(W 1 0),(W 2 0),(W 2 0)] [none] [22,23,24] [45,3,3] 3 true (bM .quo 3 21 25 8 0 9 0 3 Ui))))) (bA .add 3 28 1 2 0 3 (.need (.call 284 [(W 0 0),(W 6 0),(WK 4)] [none]) (.call ⟨.value (.func 284),#[(tT 27),(tT 29),(.const (I3 4))],#[45,3,3]⟩) 3 false (.need (.call 284 [(W 1 0),(W 2 0),(WK 3)] [none]) (.call ⟨.value (.func 284),#[(tT 31),(tT 32),(.const (I3 3))],#[45,3,3]⟩) 3 false (bA .add 3 33 1 8 0 3 (bM .quo 3 30 34 7 0 9 0 3 Ui))))))
def ao5:Tr:=.loop 0 [lV 8 0,lK 0] (aM 215 [(W 9 0),(W 1 0)] [none] [46,47] [45,45] 3 true (bA .geq 3 48 0 11 0 4 (.split (.u 12 0) (.need (.call 214 [(W 9 0),(W 1 0),(WK (-1))] [none]) (.call ⟨.value (.func 214),#[(tT 50),(tT 51),(.const (I3 (-1)))],#[45,45,3]⟩) 45 true (bA .add 3 53 1 10 0 3 (.back 0 [lV 13 0,lV 14 0]))) (.ret [(W 10 0),(W 9 0)]))))
def ai4:Tr:=.split (.u 5 0) (aM 139 [(WK 0)] [(some 2)] [39] [2] 47 false (aM 135 [(G2 6),(.agg [(tE (.int .i64 1)),(U 1 0)])] [(some 2)] [40,42] [47,47] 47 true (.need (.call 214 [(W 0 0),(W 7 1),(WK (-1))] [none]) (.call ⟨.value (.func 214),#[(tT 38),(tT 44),(.const (I3 (-1)))],#[45,45,3]⟩) 45 true ao5))) (.loop 0 [lV 0 0,lK 0] (aM 215 [(W 6 0),(W 1 0)] [none] [46,47] [45,45] 3 true (bA .geq 3 48 0 8 0 4 (.split (.u 9 0) (.need (.call 214 [(W 6 0),(W 1 0),(WK (-1))] [none]) (.call ⟨.value (.func 214),#[(tT 50),(tT 51),(.const (I3 (-1)))],#[45,45,3]⟩) 45 true (bA .add 3 53 1 7 0 3 ZZ)) (.ret [(W 7 0),(W 6 0)])))))
def aU6:Tr:=cV 1 0 8 45 (cV 0 0 10 45 (bM .geq 3 11 12 3 0 2 0 4 (.split (.u 4 0) aQ7 (.need (.prim [(WK 0),(WK 0)] none) (.binOp .gtr 3 (tT 36) (.const (I3 0)) 3) 4 false ai4))))
theorem Rv:aL prog f261 (fun _=>none) [.v none, .v none]=aU6:=by kernel_rfl
def ao9:Tr:=.need (.app 1 8 (some 17) none (some 20)) (.call ⟨.builtin .append,#[(tT 33),(tT 38)],#[45,45]⟩) 45 false (aM 260 [(.one (.c (.sr 1 21)))] [none] [39] [45] 45 true (aM 261 [(W 22 0),(W 1 0)] [none,none] [42,43] [45,45] 311 false (.need (.lit 1 [[(.u 23 0)]]) (.buildSlice 45 1 #[(0,(tT 48))]) 45 false (.need (.app 1 8 (some 14) none (some 25)) (.call ⟨.builtin .append,#[(tT 47),(tT 49)],#[45,45]⟩) 45 false (bA .add 3 30 1 13 0 3 (.back 0 [lV 24 0,lV 27 0, .row 26]))))))
def ag0:Tr:=cV 0 0 27 45 (bM .lss 3 26 28 13 0 15 0 4 (.split (.u 16 0) (.need (.app 1 8 none (some (.u 12 0)) none) (.call ⟨.builtin .append,#[(.const (.slice none 0 0)),(tT 32)],#[45,45]⟩) 45 false (fP 0 0 13 0 45 34 35 (eS 18 0 none 3 36 (.need (.lit 1 [[(.u 19 0)]]) (.buildSlice 45 1 #[(0,(tT 37))]) 45 false ao9)))) (aM 260 [(.one (.c (.sr 1 14)))] [none] [51] [45] 45 false (.ret [(W 17 0),(W 12 0)]))))
def aN7:Tr:=bA .sub 3 18 1 5 0 3 (.need (.prim [(W 0 0),(W 6 0)] none) (.slice 45 (tT 16) none (some (tT 19)) none) 45 false (.need (.app 1 8 none (some (.u 7 0)) none) (.call ⟨.builtin .append,#[(.const (.slice none 0 0)),(tT 20)],#[45,45]⟩) 45 false (aM 260 [(.one (.c (.sr 1 8)))] [none] [21] [45] 45 true (cV 1 0 23 45 (bA .sub 3 24 1 10 0 3 (.loop 0 [lV 9 0,lV 11 0, .nilrow] ag0))))))
def aL6:Tr:=cV 0 0 10 45 (cV 1 0 12 45 (bM .lss 3 11 13 2 0 3 0 4 (.split (.u 4 0) (.ret [(.one (.c (.k (.slice none 0 0)))),(W 0 0)]) (cV 1 0 17 45 aN7))))
theorem YC:aL prog f213 (fun _=>none) [.v none, .v none]=aL6:=by kernel_rfl
def aG7:Tr:=.split (.u 4 0) (bA .mul 3 11 32768 1 0 3 (fP 0 0 2 0 45 13 14 (eS 6 0 none 3 15 (bM .add 3 12 16 5 0 7 0 3 (bA .add 3 9 1 2 0 3 (.back 0 [lV 8 0,lV 9 0])))))) Lv
def aM5:Tr:=.loop 0 [lK 0,lK 0] (cV 0 0 6 45 (bM .lss 3 5 7 2 0 3 0 4 aG7))
theorem PZ:aL prog f257 (fun _=>none) [.v none]=aM5:=by kernel_rfl
def as8:Tr:=aM 257 [(W 2 0)] [none] [26] [45] 3 false (aM 257 [(W 3 0)] [none] [28] [45] 3 true (.loop 1 [lV 12 0,lV 13 0] (bA .neq 3 30 0 15 0 4 (.split (.u 16 0) (bM .rem 3 33 34 14 0 15 0 3 (.back 1 [lV 15 0,lV 17 0])) (aM 139 [(W 14 0)] [(some 2)] [36] [2] 47 true (.ret [(G2 17)]))))))
def aS2:Tr:=bA .leq 3 19 4 8 0 4 (.split (.u 9 0) (cV 3 0 22 45 (bA .leq 3 23 4 10 0 4 (.split (.u 11 0) as8 (aM 213 [(W 2 0),(W 3 0)] [none,none] [39,40] [45,45] 269 false (.back 0 [lV 3 0,lV 13 0,lV 4 0,lV 5 0]))))) (aM 213 [(W 2 0),(W 3 0)] [none,none] [39,40] [45,45] 269 false (.back 0 [lV 3 0,lV 11 0,lV 4 0,lV 5 0])))
def aE5:Tr:=.loop 0 [lV 0 1,lV 1 1,lK 0,lN] (cV 3 0 15 45 (bA .gtr 3 16 0 6 0 4 (.split (.u 7 0) (cV 2 0 18 45 aS2) (.need (.call 211 [(WK 1),(W 2 0)] [(some 2)]) (.call ⟨.value (.func 211),#[(.const (I3 1)),(tT 46)],#[3,45]⟩) 47 true Le))))
theorem Wz:aL prog f212 (fun _=>none) [.v (some 2), .v (some 2)]=aE5:=by kernel_rfl
theorem Ke {m long i:Nat} (h:i<long:=by omega):m/32768^(long-i)*32768+m/32768^(long-1-i)%32768=m/32768^(long-(i+1)):=by
 have e:m/32768^(long-i)=m/32768^(long-(i+1))/32768:=by
  rw [Nat.div_div_eq_div_mul,←Nat.pow_succ];congr 2;omega
 rw [e,show long-1-i=long-(i+1) by omega];have:=Nat.div_add_mod (m/32768^(long-(i+1))) 32768;omega
theorem xD {m long i:Nat} (h:i≤long) (hm:m<32768^long):m/32768^(long-i)<32768^i:=by
 rw [Nat.div_lt_iff_lt_mul (Nat.pow_pos (by omega)),←Nat.pow_add,show i+(long-i)=long by omega];exact hm
theorem LP {i:Nat} (h:i≤4:=by omega):32768^i≤1152921504606846976:=by
 have:=Nat.pow_le_pow_right (n:=32768) (by omega) h;rw [show (32768:Nat)^4=1152921504606846976 by decide] at this;exact this
theorem xV (m long k:Nat) (hm:m<32768^long) (hk:k≤long:=by omega) (hk4:k≤4:=by omega) (hl:long<1099511627776:=by omega) (hs:(bd m).length<1099511627776:=by omega):aN prog 284 [(.one (bT m):aF),(.one (.int .i64 long):aF),(.one (.int .i64 k):aF)] (.ret [.one (.int .i64 ((m/32768^(long-k):Nat):Int))]):=by
 refine cM func284 UJ ?_;refine bF {i:Nat // i≤k} (fun g=>[.one (.int .i64 ((m/32768^(long-g.1):Nat):Int)), .one (.int .i64 g.1)]) (fun g=>k-g.1) ⟨0,bR _⟩ ⟨aF.Sub.of_eq (congrArg (fun q:Nat=>aF.one (aE.int .i64 (q:Int))) (by show 0=m/32768^long;rw [Nat.div_eq_of_lt hm])),aF.Sub.same,trivial⟩ (fun _=>rfl) ?_;rintro ⟨i,hi⟩;dsimp only [aA,aB] at hi ⊢;apply vn bE rfl;dsimp only [aA,aB];refine vs _ rfl ?_ ?_<;>intro h2
 ·have hx:=xD (m:=m) (i:=i) (long:=long) (by omega) hm;have hp:=LP (i:=i);have hstep:=Ke (m:=m) (long:=long) (i:=i);have hlt:=xD (m:=m) (i:=i+1) (long:=long) (by omega) hm;have hp2:=LP (i:=i+1);generalize m/32768^(long-i)=x at *;generalize hy:m/32768^(long-(i+1))=y at *;apply vn (lZ) rfl;dsimp only [aA,aB];apply vn (aI) rfl;dsimp only [aA,aB];apply vn (nE (c:=((long-1-i:Nat):Int)) (by rw [show ((long:Int)-1-(i:Int))=((long-1-i:Nat):Int) by omega];exact dV)) rfl;dsimp only [aA,aB];apply aC (BM m (long-1-i) hs) rfl;generalize m/32768^(long-1-i)%32768=d at *;dsimp only [aA,aB];apply vn (dZ (c:=(y:Int)) (by rw [show (x:Int)*32768+(d:Int)=(y:Int) by omega];exact dV)) rfl;dsimp only [aA,aB];apply vn (aD) rfl;dsimp only [aA,aB];exact aR rfl ⟨⟨i+1,by omega⟩,⟨aF.Sub.of_eq (congrArg (fun q:Nat=>aF.one (aE.int .i64 (q:Int))) hy.symm),aF.Sub.same,trivial⟩,by show k-(i+1)<k-i;omega⟩
 rw [show k=i by omega];exact aK rfl
theorem Ls {d:Nat} (h:0<d):zT (d:Int) = .agg [.int .i64 1,bT d]:=by
 rw [zT,zC,Int.sign_eq_one_of_pos (by omega)];rfl
theorem TE {r d m:Nat}:r/32768^m/(d/32768^m+1)*d≤r:=by
 have hp:0<32768^m:=Nat.pow_pos (by omega)
 have h1:d≤(d/32768^m+1)*32768^m:=by
  rw [Nat.mul_comm];exact Nat.le_of_lt (Nat.lt_mul_div_succ d hp)
 calc r/32768^m/(d/32768^m+1)*d≤r/32768^m/(d/32768^m+1)*((d/32768^m+1)*32768^m):=Nat.mul_le_mul_left _ h1
  _=r/32768^m/(d/32768^m+1)*(d/32768^m+1)*32768^m:=(Nat.mul_assoc _ _ _).symm
  _≤r/32768^m*32768^m:=Nat.mul_le_mul_right _ (Nat.div_mul_le_self _ _)
  _≤r:=Nat.div_mul_le_self _ _
set_option maxHeartbeats 2000000 in
theorem Uv (r d:Nat) (hd:0<d) (hr:r<d*32768) (hs:(bd d).length<34359738368:=by omega):aN prog 261 [(.one (bT r):aF),(.one (bT d):aF)] (.ret [.one (.int .i64 ((r/d:Nat):Int)), .one (bT (r%d))]):=by
 refine cM func261 Rv ?_;have hdl:=Cn d
 have hrl:r<32768^((bd d).length+1):=by
  rw [Nat.pow_succ];exact Nat.lt_trans hr (Nat.mul_lt_mul_of_pos_right hdl (by omega))
 have hrs:=jA hrl;have hle:∀ q,q≤r→(bd q).length≤(bd d).length+1:=fun q hq=>Nat.le_trans (fG hq) hrs
 have hdn:0<(bd d).length:=by
  rcases Nat.eq_zero_or_pos (bd d).length with h | h
  ·have:=CE.1 (List.eq_nil_of_length_eq_zero h);omega
  ·exact h
 have hqB:r/d<32768:=by rw [Nat.div_lt_iff_lt_mul hd,Nat.mul_comm];exact hr
 have hkd:∀ k,k*d≤r→k<32768:=fun k hk=>by
  have:k≤r/d:=by rw [Nat.le_div_iff_mul_le hd];exact hk
  omega
 have hfin:∀ r' k,r'+k*d=r→r'<d→k=r/d∧r'=r%d:=fun r' k h1 h2=>zY (by rw [←h1,Nat.mul_comm]) h2
 have hah:∀ r':Nat,(0≤eP (r':Int) (d:Int))↔d≤r':=fun r'=>by
  have:=sX (a:=(r':Int)) (b:=(d:Int));omega
 apply vn (aQ eW (aP _)) rfl;dsimp only [aA,aB];apply vn (aQ eW (aP _)) rfl;dsimp only [aA,aB];apply vn fJ rfl;dsimp only [aA,aB];refine vs _ rfl ?_ ?_<;>intro h3
 ·apply vn iZ rfl;dsimp only [aA,aB];refine vs _ rfl ?_ ?_<;>intro h5
  ·apply vn (aD) rfl;dsimp only [aA,aB];apply vn (aD) rfl;dsimp only [aA,aB];apply aC (xV r ((bd d).length+1) ((bd d).length+1) hrl (bB _)) rfl;rw [Nat.sub_self,Nat.pow_zero,Nat.div_one];dsimp only [aA,aB];apply aC (xV d (bd d).length (bd d).length hdl (bB _)) rfl;rw [Nat.sub_self,Nat.pow_zero,Nat.div_one];dsimp only [aA,aB];obtain ⟨k,hk⟩:∃ k,r/d=k:=⟨_,rfl⟩
   have hk1:k*d≤r:=by rw [←hk];exact Nat.div_mul_le_self _ _
   have hk2:=hkd k hk1;apply vn (qY (c:=(k:Int)) (by omega) (by rw [Int.tdiv_eq_ediv_of_nonneg (pI _),←Int.natCast_ediv,hk];exact dV)) rfl;dsimp only [aA,aB];apply vn eE rfl;dsimp only [aA,aB];refine vs _ rfl ?_ ?_<;>intro h12
   ·have hm:=jM (k:Int) (d:Int) (by
     rw [Int.natAbs_natCast,Int.natAbs_natCast];have:(bd k).length≤1:=jA (by omega);omega)
    rw [Ls hd,show (k:Int)*(d:Int)=((k*d:Nat):Int) by rw [Int.natCast_mul]] at hm;apply aC (oZ k) rfl;dsimp only [aA,aB];apply aC hm rfl;dsimp only [aA,aB];apply aC (kK r (k*d) (r-k*d) (-1) (.inr rfl) (by have:=hle _ hk1;omega)) rfl;dsimp only [aA,aB];refine bF {g:Nat×Nat // g.1+g.2*d=r} (fun g=>[.one (bT g.1.1), .one (.int .i64 g.1.2)]) (fun g=>g.1.1) ⟨(r-k*d,k),by show r-k*d+k*d=r;omega⟩ aO.rfl (fun _=>rfl) ?_;rintro ⟨⟨r',k'⟩,hg⟩;dsimp only [aA,aB] at hg ⊢;have hk3:=hkd k' (by omega);have hr3:=hle r' (by omega);apply aC (qL r' d) rfl;dsimp only [aA,aB];apply vn fJ rfl;dsimp only [aA,aB];refine vs _ rfl ?_ ?_<;>intro h19
    ·have hdr:d≤r':=(hah r').1 (by assumption);apply aC (kK r' d (r'-d) (-1) (.inr rfl)) rfl;dsimp only [aA,aB];apply vn (aD) rfl;dsimp only [aA,aB];exact aR rfl ⟨⟨(r'-d,k'+1),by show r'-d+(k'+1)*d=r;rw [Nat.add_mul];omega⟩,aO.rfl,by show r'-d<r';omega⟩
    have hdr:r'<d:=by
     rcases Nat.lt_or_ge r' d with h | h
     ·exact h
     ·exact absurd ((hah r').2 h) (by assumption)
    obtain ⟨e1,e2⟩:=hfin r' k' hg hdr;rw [←e1,←e2];exact aK rfl
   refine bF {g:Nat×Nat // g.1+g.2*d=r} (fun g=>[.one (bT g.1.1), .one (.int .i64 g.1.2)]) (fun g=>g.1.1) ⟨(r,0),by omega⟩ ⟨aF.Sub.same,aF.Sub.of_eq (congrArg (fun q:Nat=>aF.one (aE.int .i64 (q:Int))) (by show k=0;omega)),trivial⟩ (fun _=>rfl) ?_;rintro ⟨⟨r',k'⟩,hg⟩;dsimp only [aA,aB] at hg ⊢;have hk3:=hkd k' (by omega);have hr3:=hle r' (by omega);apply aC (qL r' d) rfl;dsimp only [aA,aB];apply vn fJ rfl;dsimp only [aA,aB];refine vs _ rfl ?_ ?_<;>intro h27
   ·have hdr:d≤r':=(hah r').1 (by assumption);apply aC (kK r' d (r'-d) (-1) (.inr rfl)) rfl;dsimp only [aA,aB];apply vn (aD) rfl;dsimp only [aA,aB];exact aR rfl ⟨⟨(r'-d,k'+1),by show r'-d+(k'+1)*d=r;rw [Nat.add_mul];omega⟩,aO.rfl,by show r'-d<r';omega⟩
   have hdr:r'<d:=by
    rcases Nat.lt_or_ge r' d with h | h
    ·exact h
    ·exact absurd ((hah r').2 h) (by assumption)
   obtain ⟨e1,e2⟩:=hfin r' k' hg hdr;rw [←e1,←e2];exact aK rfl
  apply vn (aD) rfl;dsimp only [aA,aB];apply aC (xV r ((bd d).length+1) 4 hrl) rfl;dsimp only [aA,aB];apply aC (xV d (bd d).length 3 hdl) rfl;rw [show (bd d).length+1-4=(bd d).length-3 by omega];have hd3:=xD (m:=d) (long:=(bd d).length) (i:=3) (by omega) hdl;have hr4:=xD (m:=r) (long:=(bd d).length+1) (i:=4) (by omega) hrl;rw [show (bd d).length+1-4=(bd d).length-3 by omega] at hr4;have hp3:=LP (i:=3);have hp4:=LP (i:=4);have hk1:=TE (r:=r) (d:=d) (m:=(bd d).length-3);generalize r/32768^((bd d).length-3)=rt at *;generalize d/32768^((bd d).length-3)=dt at *;obtain ⟨k,hk⟩:∃ k,rt/(dt+1)=k:=⟨_,rfl⟩
  rw [hk] at hk1;have hk2:=hkd k hk1;dsimp only [aA,aB];apply vn (aD) rfl;dsimp only [aA,aB];apply vn (qY (c:=(k:Int)) (by omega) (by rw [Int.tdiv_eq_ediv_of_nonneg (pI _),show ((dt:Int)+1)=((dt+1:Nat):Int) by omega,←Int.natCast_ediv,hk];exact dV)) rfl;dsimp only [aA,aB];apply vn eE rfl;dsimp only [aA,aB];refine vs _ rfl ?_ ?_<;>intro h38
  ·have hm:=jM (k:Int) (d:Int) (by
    rw [Int.natAbs_natCast,Int.natAbs_natCast];have:(bd k).length≤1:=jA (by omega);omega)
   rw [Ls hd,show (k:Int)*(d:Int)=((k*d:Nat):Int) by rw [Int.natCast_mul]] at hm;apply aC (oZ k) rfl;dsimp only [aA,aB];apply aC hm rfl;dsimp only [aA,aB];apply aC (kK r (k*d) (r-k*d) (-1) (.inr rfl) (by have:=hle _ hk1;omega)) rfl;dsimp only [aA,aB];refine bF {g:Nat×Nat // g.1+g.2*d=r} (fun g=>[.one (bT g.1.1), .one (.int .i64 g.1.2)]) (fun g=>g.1.1) ⟨(r-k*d,k),by show r-k*d+k*d=r;omega⟩ aO.rfl (fun _=>rfl) ?_;rintro ⟨⟨r',k'⟩,hg⟩;dsimp only [aA,aB] at hg ⊢;have hk3:=hkd k' (by omega);have hr3:=hle r' (by omega);apply aC (qL r' d) rfl;dsimp only [aA,aB];apply vn fJ rfl;dsimp only [aA,aB];refine vs _ rfl ?_ ?_<;>intro h45
   ·have hdr:d≤r':=(hah r').1 (by assumption);apply aC (kK r' d (r'-d) (-1) (.inr rfl)) rfl;dsimp only [aA,aB];apply vn (aD) rfl;dsimp only [aA,aB];exact aR rfl ⟨⟨(r'-d,k'+1),by show r'-d+(k'+1)*d=r;rw [Nat.add_mul];omega⟩,aO.rfl,by show r'-d<r';omega⟩
   have hdr:r'<d:=by
    rcases Nat.lt_or_ge r' d with h | h
    ·exact h
    ·exact absurd ((hah r').2 h) (by assumption)
   obtain ⟨e1,e2⟩:=hfin r' k' hg hdr;rw [←e1,←e2];exact aK rfl
  refine bF {g:Nat×Nat // g.1+g.2*d=r} (fun g=>[.one (bT g.1.1), .one (.int .i64 g.1.2)]) (fun g=>g.1.1) ⟨(r,0),by omega⟩ ⟨aF.Sub.same,aF.Sub.of_eq (congrArg (fun q:Nat=>aF.one (aE.int .i64 (q:Int))) (by show k=0;omega)),trivial⟩ (fun _=>rfl) ?_;rintro ⟨⟨r',k'⟩,hg⟩;dsimp only [aA,aB] at hg ⊢;have hk3:=hkd k' (by omega);have hr3:=hle r' (by omega);apply aC (qL r' d) rfl;dsimp only [aA,aB];apply vn fJ rfl;dsimp only [aA,aB];refine vs _ rfl ?_ ?_<;>intro h53
  ·have hdr:d≤r':=(hah r').1 (by assumption);apply aC (kK r' d (r'-d) (-1) (.inr rfl)) rfl;dsimp only [aA,aB];apply vn (aD) rfl;dsimp only [aA,aB];exact aR rfl ⟨⟨(r'-d,k'+1),by show r'-d+(k'+1)*d=r;rw [Nat.add_mul];omega⟩,aO.rfl,by show r'-d<r';omega⟩
  have hdr:r'<d:=by
   rcases Nat.lt_or_ge r' d with h | h
   ·exact h
   ·exact absurd ((hah r').2 h) (by assumption)
  obtain ⟨e1,e2⟩:=hfin r' k' hg hdr;rw [←e1,←e2];exact aK rfl
 apply vn eE rfl;dsimp only [aA,aB];refine vs _ rfl ?_ ?_<;>intro h59
 ·exfalso;omega
 refine bF {g:Nat×Nat // g.1+g.2*d=r} (fun g=>[.one (bT g.1.1), .one (.int .i64 g.1.2)]) (fun g=>g.1.1) ⟨(r,0),by omega⟩ aO.rfl (fun _=>rfl) ?_;rintro ⟨⟨r',k'⟩,hg⟩;dsimp only [aA,aB] at hg ⊢;have hk3:=hkd k' (by omega);have hr3:=hle r' (by omega);apply aC (qL r' d) rfl;dsimp only [aA,aB];apply vn fJ rfl;dsimp only [aA,aB];refine vs _ rfl ?_ ?_<;>intro h74
 ·have hdr:d≤r':=(hah r').1 (by assumption);apply aC (kK r' d (r'-d) (-1) (.inr rfl)) rfl;dsimp only [aA,aB];apply vn (aD) rfl;dsimp only [aA,aB];exact aR rfl ⟨⟨(r'-d,k'+1),by show r'-d+(k'+1)*d=r;rw [Nat.add_mul];omega⟩,aO.rfl,by show r'-d<r';omega⟩
 have hdr:r'<d:=by
  rcases Nat.lt_or_ge r' d with h | h
  ·exact h
  ·exact absurd ((hah r').2 h) (by assumption)
 obtain ⟨e1,e2⟩:=hfin r' k' hg hdr;rw [←e1,←e2];exact aK rfl
set_option maxHeartbeats 1000000 in
theorem jR (a d:Nat) (hd:0<d:=by omega) (hs:(bd a).length+(bd d).length<34359738368:=by omega):aN prog 213 [(.one (bT a):aF),(.one (bT d):aF)] (.ret [.one (bT (a/d)), .one (bT (a%d))]):=by
 refine cM func213 YC ?_
 have hdn:0<(bd d).length:=by
  rcases Nat.eq_zero_or_pos (bd d).length with h | h
  ·have:=CE.1 (List.eq_nil_of_length_eq_zero h);omega
  ·exact h
 apply vn (aQ eW (aP _)) rfl;dsimp only [aA,aB];apply vn (aQ eW (aP _)) rfl;dsimp only [aA,aB];apply vn bE rfl;dsimp only [aA,aB];refine vs _ rfl ?_ ?_<;>intro h3
 ·have had:=vW (a:=a) (b:=d);refine dK ⟨qE (Nat.div_eq_of_lt had),?_,trivial⟩;rw [Nat.mod_eq_of_lt had];exact aE.Sub.same
 apply vn (aQ eW (aP _)) rfl;dsimp only [aA,aB];apply vn (aI) rfl;dsimp only [aA,aB];apply vn (YK (m:=(bd d).length-1)) rfl;dsimp only [aA,aB];refine rP (ts:=[]) (us:=rB ((bd a).take ((bd d).length-1))) (vs:=rB ((bd a).take ((bd d).length-1))) rfl (.inr aE.Sub.same) rfl (by simp;omega) (by simp [maxLen];omega) ?_;dsimp only [aA,aB];apply aC (tP ((bd a).take ((bd d).length-1)) ((gX a).take _) (by rw [List.length_take];omega)) rfl;dsimp only [aA,aB];apply vn (aQ eW (aP _)) rfl;dsimp only [aA,aB];apply vn (aI) rfl;dsimp only [aA,aB]
 refine bF {g:Nat×Nat×List Nat // (bd d).length-1≤g.1∧g.1≤(bd a).length∧bv ((bd a).take g.1)=g.2.1+d*bv g.2.2∧g.2.1<d∧DB 32768 g.2.2∧g.2.2.length≤g.1} (fun g=>[.one (bT g.1.2.1), .one (.int .i64 g.1.1), .rows (rB g.1.2.2)]) (fun g=>(bd a).length-g.1.1) ⟨((bd d).length-1,bv ((bd a).take ((bd d).length-1)),[]),bB _,by show (bd d).length-1≤_;omega,by simp [bv,val],by
  have h1:=JY ((gX a).take ((bd d).length-1));rw [List.length_take,Nat.min_eq_left (by omega)] at h1;exact Nat.lt_of_lt_of_le h1 (aR9 (by omega)),Rj,bR _⟩ ⟨aF.Sub.same,aF.Sub.of_eq (congrArg (fun q=>aF.one (aE.int .i64 q)) (by show ((bd d).length:Int)-1=(((bd d).length-1:Nat):Int);omega)),aF.Sub.same,trivial⟩ (fun _=>rfl) ?_
 rintro ⟨⟨i,R,qs⟩,hi1,hi2,hv,hR,hq,hql⟩;dsimp only [aA,aB] at hi1 hi2 hv hR hq hql ⊢;have hRl:=fG (Nat.le_of_lt hR);apply vn (aQ eW (aP _)) rfl;dsimp only [aA,aB];apply vn bE rfl;dsimp only [aA,aB];refine vs _ rfl ?_ ?_<;>intro h15
 ·obtain ⟨x,hx⟩:∃ x,(bd a)[i]? = some x:=⟨_,bI (by omega)⟩
  have hxB:=(gX a).get hx;refine rP (ts:=[]) (us:=rB (bd R)) (vs:=rB (bd R)) rfl (.inr aE.Sub.same) rfl (by simp;omega) (by simp [maxLen];omega) ?_;dsimp only [aA,aB];apply vn (aW eW hx) rfl;dsimp only [aA,aB];apply vn (bG NT) rfl;dsimp only [aA,aB];apply bL (us:=rB [x]) rfl;dsimp only [aA,aB];refine rP (ts:=rB (bd R)) (us:=rB [x]) (vs:=rB (bd R ++ [x])) rfl rfl (by rw [rB,rB,rB,←List.map_append]) (by simp;omega) (by simp [maxLen];omega) ?_;dsimp only [aA,aB];have hdb:DB 32768 (bd R ++ [x]):=(gX R).append (fun y hy=>by simp at hy;omega);apply aC (tP (bd R ++ [x]) hdb (by simp;omega)) rfl;rw [Bu,fL];dsimp only [aA,aB]
  apply aC (Uv (R*32768+x) d hd (by
   have:(R+1)*32768≤d*32768:=Nat.mul_le_mul_right _ hR;omega)) rfl
  have hmd:=Nat.mod_add_div (R*32768+x) d
  have hqB:(R*32768+x)/d<32768:=by
   rw [Nat.div_lt_iff_lt_mul hd,Nat.mul_comm];have:(R+1)*32768≤d*32768:=Nat.mul_le_mul_right _ hR;omega
  have hRm:=Nat.mod_lt (R*32768+x) hd;generalize (R*32768+x)/d=k at *;generalize (R*32768+x)%d=R' at *;dsimp only [aA,aB];apply bL (us:=rB [k]) rfl;dsimp only [aA,aB];refine rP (ts:=rB qs) (us:=rB [k]) (vs:=rB (qs ++ [k])) rfl rfl (by rw [rB,rB,rB,←List.map_append]) (by simp;omega) (by simp [maxLen];omega) ?_;dsimp only [aA,aB];apply vn (aD) rfl;dsimp only [aA,aB]
  exact aR rfl ⟨⟨(i+1,R',qs ++ [k]),by show _≤i+1;omega,by show i+1≤_;omega,by
   show bv ((bd a).take (i+1))=R'+d*bv (qs ++ [k]);rw [take_succ hx,Bu,Bu,hv,Nat.mul_add,Nat.add_mul,←Nat.mul_assoc];omega,hRm,hq.append (fun y hy=>by simp at hy;omega),by show (qs ++ [k]).length≤i+1;simp;omega⟩,aO.rfl,by show (bd a).length-(i+1)<(bd a).length-i;omega⟩
 have hie:i=(bd a).length:=by omega
 subst hie;rw [List.take_length,fL] at hv;obtain ⟨e1,e2⟩:=zY hv hR;apply aC (tP qs hq) rfl;dsimp only [aA,aB];rw [←e1,←e2];exact aK rfl
theorem Cg (m:Nat) (hm:(bd m).length≤4:=by omega):aN prog 257 [(.one (bT m):aF)] (.ret [.one (.int .i64 m)]):=by
 refine cM func257 PZ ?_;refine bF {i:Nat // i≤(bd m).length} (fun g=>[.one (.int .i64 (bv ((bd m).take g.1):Nat)), .one (.int .i64 g.1)]) (fun g=>(bd m).length-g.1) ⟨0,bR _⟩ aO.rfl (fun _=>rfl) ?_;rintro ⟨i,hi⟩;dsimp only [aA,aB] at hi ⊢;apply vn (aQ eW (aP _)) rfl;dsimp only [aA,aB];apply vn bE rfl;dsimp only [aA,aB];refine vs _ rfl ?_ ?_<;>intro h3
 ·obtain ⟨x,hx⟩:∃ x,(bd m)[i]? = some x:=⟨_,bI (by omega)⟩
  have hxB:=(gX m).get hx;have hb:=JY ((gX m).take i);rw [List.length_take,Nat.min_eq_left hi] at hb;have hp:=LP (i:=i);have hb2:=JY ((gX m).take (i+1));rw [List.length_take,Nat.min_eq_left (by omega)] at hb2;have hp2:=LP (i:=i+1);have hsn:bv ((bd m).take (i+1))=bv ((bd m).take i)*32768+x:=by rw [take_succ hx,Bu]
  generalize bv ((bd m).take i)=y at *;apply vn (lZ) rfl;dsimp only [aA,aB];apply vn (aW eW hx) rfl;dsimp only [aA,aB];apply vn (bG NT) rfl;dsimp only [aA,aB];apply vn (aD) rfl;dsimp only [aA,aB];apply vn (aD) rfl;dsimp only [aA,aB];exact aR rfl ⟨⟨i+1,by omega⟩,⟨aF.Sub.of_eq (congrArg (fun q:Int=>aF.one (aE.int .i64 q)) (by show (y:Int)*32768+x=((bv ((bd m).take (i+1)):Nat):Int);omega)),aF.Sub.same,trivial⟩,by show (bd m).length-(i+1)<(bd m).length-i;omega⟩
 rw [show i=(bd m).length by omega,List.take_length,fL];exact aK rfl
set_option maxHeartbeats 1000000 in
theorem Mp (x y:Int) (hs:(bd x.natAbs).length<17179869184:=by omega) (hs2:(bd y.natAbs).length<17179869184:=by omega):aN prog 212 [(zT x:aF),(zT y:aF)] (.ret [zT ((Nat.gcd x.natAbs y.natAbs:Nat):Int)]):=by
 refine cM func212 Wz ?_;refine bF {p:Nat×Nat // Nat.gcd p.1 p.2=Nat.gcd x.natAbs y.natAbs∧(bd p.1).length<17179869184∧(bd p.2).length<17179869184} (fun p=>[.one (bT p.1.1), .one (bT p.1.2), .one (.int .i64 0), .one (.exact (.slice none 0 0))]) (fun p=>p.1.2) ⟨(x.natAbs,y.natAbs),rfl,hs,hs2⟩ aO.rfl (fun _=>rfl) ?_;rintro ⟨⟨a,b⟩,hg,ha,hb⟩;dsimp only [aA,aB] at hg ha hb ⊢;have hbz:(bd b).length=0↔b=0:=by rw [List.length_eq_zero_iff,CE]
 have hml:=fG (Nat.mod_le a b);apply vn (aQ eW (aP _)) rfl;dsimp only [aA,aB];apply vn eE rfl;dsimp only [aA,aB];refine vs _ rfl ?_ ?_<;>intro h3
 ·have hb0:0<b:=by
   rcases Nat.eq_zero_or_pos b with h | h
   ·have:=hbz.2 h;omega
   ·exact h
  apply vn (aQ eW (aP _)) rfl;dsimp only [aA,aB];apply vn iZ rfl;dsimp only [aA,aB];refine vs _ rfl ?_ ?_<;>intro h6
  ·apply vn (aQ eW (aP _)) rfl;dsimp only [aA,aB];apply vn iZ rfl;dsimp only [aA,aB];refine vs _ rfl ?_ ?_<;>intro h9
   ·have h4:∀ n,(bd n).length≤4→n<1152921504606846976:=fun n hn=>Nat.lt_of_lt_of_le (Cn n) (LP hn);have ha4:=h4 a (by omega);have hb4:=h4 b (by omega);apply aC (Cg a) rfl;dsimp only [aA,aB];apply aC (Cg b) rfl;dsimp only [aA,aB];refine bF {p:Nat×Nat // Nat.gcd p.1 p.2=Nat.gcd x.natAbs y.natAbs∧p.1<1152921504606846976∧p.2<1152921504606846976} (fun p=>[.one (.int .i64 p.1.1), .one (.int .i64 p.1.2)]) (fun p=>p.1.2) ⟨(a,b),hg,ha4,hb4⟩ aO.rfl (fun _=>rfl) ?_;rintro ⟨⟨p,q⟩,hpq,hp,hq⟩;dsimp only [aA,aB] at hpq hp hq ⊢;apply vn gI rfl;dsimp only [aA,aB];refine vs _ rfl ?_ ?_<;>intro h14
    ·apply vn (CA (c:=((p%q:Nat):Int)) (by omega) (by rw [Int.tmod_eq_emod_of_nonneg (pI _),←Int.natCast_emod])) rfl;exact aR rfl ⟨⟨(q,p%q),by rw [←hpq,Nat.gcd_comm p q,Nat.gcd_rec q p,Nat.gcd_comm],hq,Nat.lt_of_le_of_lt (Nat.mod_le _ _) hp⟩,aO.rfl,Nat.mod_lt _ (by omega)⟩
    have hq0:q=0:=by omega
    subst hq0;rw [Nat.gcd_zero_right] at hpq;apply aC (oZ p) rfl;dsimp only [aA,aB];rw [←hpq];exact aK rfl
   apply aC (jR a b hb0) rfl;dsimp only [aA,aB];exact aR rfl ⟨⟨(b,a%b),by rw [←hg,Nat.gcd_comm a b,Nat.gcd_rec b a,Nat.gcd_comm],hb,by show (bd (a%b)).length<_;omega⟩,aO.rfl,Nat.mod_lt _ hb0⟩
  apply aC (jR a b hb0) rfl;dsimp only [aA,aB];exact aR rfl ⟨⟨(b,a%b),by rw [←hg,Nat.gcd_comm a b,Nat.gcd_rec b a,Nat.gcd_comm],hb,by show (bd (a%b)).length<_;omega⟩,aO.rfl,Nat.mod_lt _ hb0⟩
 have hb0:b=0:=hbz.1 (by omega);subst hb0;rw [Nat.gcd_zero_right] at hg;apply aC (fX 1 (a:Int) (bd a) (gX _) (by rw [fL];rfl) (fun hne=>by rw [fL] at hne;exact Int.sign_eq_one_of_pos (by omega))) rfl;dsimp only [aA,aB];rw [←hg];exact aK rfl
open Go Go.Proofs Tryz Ord
def aN8:Tr:=bA .eql 3 5 0 0 2 4 (.split (.u 1 0) (.need (.call 139 [(WK 1)] [(some 2)]) (.call ⟨.value (.func 139),#[(.const (I3 1))],#[2]⟩) 47 true (.ret [(G2 2)])) (.ret [(.agg [(U 0 2),(U 0 3)])]))
theorem ay6:aL prog f136 (fun _=>none) [.v (some 4)]=aN8:=by kernel_rfl
def al8:Tr:=bA .eql 3 28 1 9 0 4 (.split (.u 10 0) (.ret [(.agg [(U 3 0),(U 3 1),(U 4 0),(U 4 1)])]) (aM 213 [(W 3 1),(W 5 1)] [none,none] [36,38] [45,45] 269 false (aM 213 [(W 4 1),(W 5 1)] [none,none] [44,46] [45,45] 269 false (aM 211 [(W 3 0),(W 11 0)] [(some 2)] [51,52] [3,45] 47 false (.need (.call 211 [(WK 1),(W 13 0)] [(some 2)]) (.call ⟨.value (.func 211),#[(.const (I3 1)),(tT 54)],#[3,45]⟩) 47 true (.ret [(.agg [(U 15 0),(U 15 1),(U 16 0),(U 16 1)])]))))))
def aT0:Tr:=bA .eql 3 22 1 6 0 4 (.split (.u 7 0) (.need (.prim [(W 5 1),(WK 0)] none) (.indexAddr 45 (tT 26) (.const (I3 0))) 0 false (eS 8 0 none 3 27 al8)) (aM 213 [(W 3 1),(W 5 1)] [none,none] [36,38] [45,45] 269 false (aM 213 [(W 4 1),(W 5 1)] [none,none] [44,46] [45,45] 269 false (aM 211 [(W 3 0),(W 8 0)] [(some 2)] [51,52] [3,45] 47 false (.need (.call 211 [(WK 1),(W 10 0)] [(some 2)]) (.call ⟨.value (.func 211),#[(.const (I3 1)),(tT 54)],#[3,45]⟩) 47 true (.ret [(.agg [(U 12 0),(U 12 1),(U 13 0),(U 13 1)])]))))))
def am2:Tr:=bA .eql 3 28 1 7 0 4 (.split (.u 8 0) (.ret [(.agg [(U 0 0),(U 0 1),(U 1 0),(U 1 1)])]) (aM 213 [(W 0 1),(W 3 1)] [none,none] [36,38] [45,45] 269 false (aM 213 [(W 1 1),(W 3 1)] [none,none] [44,46] [45,45] 269 false (aM 211 [(W 0 0),(W 9 0)] [(some 2)] [51,52] [3,45] 47 false (.need (.call 211 [(WK 1),(W 11 0)] [(some 2)]) (.call ⟨.value (.func 211),#[(.const (I3 1)),(tT 54)],#[3,45]⟩) 47 true (.ret [(.agg [(U 13 0),(U 13 1),(U 14 0),(U 14 1)])]))))))
def ax4:Tr:=bA .eql 3 22 1 4 0 4 (.split (.u 5 0) (.need (.prim [(W 3 1),(WK 0)] none) (.indexAddr 45 (tT 26) (.const (I3 0))) 0 false (eS 6 0 none 3 27 am2)) (aM 213 [(W 0 1),(W 3 1)] [none,none] [36,38] [45,45] 269 false (aM 213 [(W 1 1),(W 3 1)] [none,none] [44,46] [45,45] 269 false (aM 211 [(W 0 0),(W 6 0)] [(some 2)] [51,52] [3,45] 47 false (.need (.call 211 [(WK 1),(W 8 0)] [(some 2)]) (.call ⟨.value (.func 211),#[(.const (I3 1)),(tT 54)],#[3,45]⟩) 47 true (.ret [(.agg [(U 10 0),(U 10 1),(U 11 0),(U 11 1)])]))))))
def aX5:Tr:=bA .lss 3 11 0 1 0 4 (.split (.u 2 0) (aM 183 [(G2 0)] [(some 2)] [13] [47] 47 false (aM 183 [(G2 1)] [(some 2)] [15] [47] 47 true (aM 212 [(G2 3),(G2 4)] [(some 2)] [17,18] [47,47] 47 true (cV 5 1 21 45 aT0)))) (aM 212 [(G2 0),(G2 1)] [(some 2)] [17,18] [47,47] 47 true (cV 3 1 21 45 ax4)))
theorem Qw:aL prog f137 (fun _=>none) [.v (some 2), .v (some 2)]=aX5:=by kernel_rfl
def Zq:Tr:=.ret [(.agg [(U 1 0),(U 1 1),(U 2 0),(U 2 1)])]
def aG1:Tr:=aM 139 [(W 0 0)] [(some 2)] [3] [2] 47 true (.need (.call 139 [(WK 1)] [(some 2)]) (.call ⟨.value (.func 139),#[(.const (I3 1))],#[2]⟩) 47 true Zq)
theorem aj4:aL prog f50 (fun _=>none) [.v none]=aG1:=by kernel_rfl
def aT1:Tr:=aM 139 [(W 0 0)] [(some 2)] [5] [2] 47 false (aM 139 [(W 1 0)] [(some 2)] [7] [2] 47 true (aM 137 [(G2 2),(G2 3)] [(some 4)] [6,8] [47,47] 49 true (.ret [(G4 4)])))
theorem aX2:aL prog f79 (fun _=>none) [.v none, .v none]=aT1:=by kernel_rfl
def aW9:Tr:=aM 135 [(G2 1),(G2 4)] [(some 2)] [11,13] [47,47] 47 false (aM 138 [(G2 3),(G2 5)] [(some 2)] [9,14] [47,47] 47 false (aM 136 [(G4 0)] [(some 2)] [16] [49] 47 false (aM 136 [(G4 1)] [(some 2)] [18] [49] 47 false (aM 135 [(G2 7),(G2 8)] [(some 2)] [17,19] [47,47] 47 true (aM 137 [(G2 6),(G2 9)] [(some 4)] [15,20] [47,47] 49 true (.ret [(G4 10)]))))))
def aJ2:Tr:=aM 136 [(G4 1)] [(some 2)] [7] [49] 47 false (aM 135 [(G2 0),(G2 2)] [(some 2)] [6,8] [47,47] 47 false (aM 136 [(G4 0)] [(some 2)] [12] [49] 47 false aW9))
theorem aB7:aL prog f48 (fun _=>none) [.v (some 4), .v (some 4)]=aJ2:=by kernel_rfl
def aL9:Tr:=aM 105 [(G4 1)] [(some 4)] [6] [49] 49 true (aM 48 [(G4 0),(G4 2)] [(some 4)] [5,7] [49,49] 49 true (.ret [(G4 3)]))
theorem aB6:aL prog f141 (fun _=>none) [.v (some 4), .v (some 4)]=aL9:=by kernel_rfl
def ZL:Tr:=.ret [(G4 6)]
def aW2:Tr:=aM 135 [(G2 0),(G2 1)] [(some 2)] [6,8] [47,47] 47 false (aM 136 [(G4 0)] [(some 2)] [10] [49] 47 false (aM 136 [(G4 1)] [(some 2)] [12] [49] 47 false (aM 135 [(G2 3),(G2 4)] [(some 2)] [11,13] [47,47] 47 true (aM 137 [(G2 2),(G2 5)] [(some 4)] [9,14] [47,47] 49 true ZL))))
theorem aq2:aL prog f104 (fun _=>none) [.v (some 4), .v (some 4)]=aW2:=by kernel_rfl
def aE0:Tr:=aM 136 [(G4 1)] [(some 2)] [7] [49] 47 false (aM 135 [(G2 0),(G2 2)] [(some 2)] [6,8] [47,47] 47 false (aM 136 [(G4 0)] [(some 2)] [10] [49] 47 false (aM 135 [(G2 4),(G2 1)] [(some 2)] [11,13] [47,47] 47 true (aM 137 [(G2 3),(G2 5)] [(some 4)] [9,14] [47,47] 49 true ZL))))
theorem ae4:aL prog f102 (fun _=>none) [.v (some 4), .v (some 4)]=aE0:=by kernel_rfl
def ZE:Tr:=aM 136 [(G4 0)] [(some 2)] [6] [49] 47 true Zq
def aI4:Tr:=aM 183 [(G2 0)] [(some 2)] [4] [47] 47 false ZE
theorem ax1:aL prog f105 (fun _=>none) [.v (some 4)]=aI4:=by kernel_rfl
def aP6:Tr:=aM 148 [(G2 0)] [(some 2)] [4] [47] 47 false ZE
theorem as2:aL prog f60 (fun _=>none) [.v (some 4)]=aP6:=by kernel_rfl
def aU2:Tr:=aM 136 [(G4 1)] [(some 2)] [7] [49] 47 false (aM 135 [(G2 0),(G2 2)] [(some 2)] [6,8] [47,47] 47 false (aM 136 [(G4 0)] [(some 2)] [12] [49] 47 false (aM 135 [(G2 1),(G2 4)] [(some 2)] [11,13] [47,47] 47 true (aM 134 [(G2 3),(G2 5)] [none] [9,14] [47,47] 3 true (.ret [(W 6 0)])))))
theorem aB8:aL prog f47 (fun _=>none) [.v (some 4), .v (some 4)]=aU2:=by kernel_rfl
def aJ6:Tr:=.ret [(W 0 0)]
theorem Wj:aL prog f46 (fun _=>none) [.v (some 4)]=aJ6:=by kernel_rfl
structure RQ where
 q:Rat
 z:Bool
 h:z=true→q=0
def RQ.of (q:Rat):RQ:=⟨q,false,fun h=>by cases h⟩
def RQ.nil:RQ:=⟨0,true,fun _=>rfl⟩
abbrev rC (a:RQ):List aE:=[.int .i64 a.q.num.sign,bT a.q.num.natAbs, .int .i64 (if a.z then 0 else 1),bT (if a.z then 0 else a.q.den)]
abbrev lI (a:RQ):aF:=.agg (rC a)
theorem RQ.SE (q:Rat):(RQ.of q).q=q:=rfl
theorem an1 (q:Rat):zT (q.den:Int) = .agg [.int .i64 1,bT q.den]:=Ls q.den_pos
theorem yI:aU aE.Sub [.int .i64 0, .exact (.slice none 0 0), .int .i64 0, .exact (.slice none 0 0)] (rC RQ.nil):=⟨aE.Sub.same,qE rfl,aE.Sub.same,qE rfl,trivial⟩
theorem kI (a:RQ):aN prog 136 [(lI a:aF)] (.ret [zT (a.q.den:Int)]):=by
 refine cM func136 ay6 ?_;apply vn bQ rfl;dsimp only [aA,aB];refine vs _ rfl ?_ ?_<;>intro h1
 ·have ha:a.z=true:=by cases h:a.z<;>simp_all
  have hq:=a.h ha;apply aC (oZ 1) rfl;dsimp only [aA,aB];rw [hq];exact aK rfl
 have ha:a.z=false:=by cases h:a.z<;>simp_all
 refine aK ?_;rw [an1];show [aF.agg [.int .i64 (if a.z then 0 else 1),bT (if a.z then 0 else a.q.den)]]=_;rw [ha];rfl
theorem fZ {n B:Nat} (h:n<2^B):(bd n).length≤B:=jA (Nat.lt_of_lt_of_le h (Nat.pow_le_pow_left (by omega) B))
def uZ (n d:Int):Rat:=mkRat (if d<0 then -n else n) d.natAbs
theorem Ys {z:Int} {d:Nat} (hd:d≠0:=by omega):(mkRat z d).num=z/((z.natAbs.gcd d:Nat):Int)∧(mkRat z d).den=d/z.natAbs.gcd d∧(mkRat z d).num.natAbs=z.natAbs/z.natAbs.gcd d∧(mkRat z d).num.sign=z.sign:=by
 obtain ⟨h1,h2⟩:=Sw (z:=z) hd;have hg:0<z.natAbs.gcd d:=Nat.gcd_pos_of_pos_right _ (by omega);have hgz:z≠0→z.natAbs.gcd d≤z.natAbs:=fun h=>Nat.gcd_le_left _ (by omega)
 have h3:(mkRat z d).num.natAbs=z.natAbs/z.natAbs.gcd d:=by
  rw [h1];generalize z.natAbs/z.natAbs.gcd d=t;split<;>omega
 refine ⟨?_,h2,h3,?_⟩
 ·rw [←Rat.normalize_eq_mkRat hd,Rat.normalize_eq hd]
 ·rcases cK z with ⟨h,e⟩ | ⟨h,e⟩ | ⟨h,e⟩
  ·rw [e,h1,decide_eq_true h,if_pos rfl];have:=Nat.div_pos (hgz (by omega)) hg;exact Int.sign_eq_neg_one_of_neg (by omega)
  ·rw [e];subst h;rw [Rat.zero_mkRat];rfl
  ·rw [e,h1,decide_eq_false (by omega),if_neg (by simp)];have:=Nat.div_pos (hgz (by omega)) hg;exact Int.sign_eq_one_of_pos (by omega)
theorem xA {g:Nat} (h:(bd g).length=1) {x:Nat} (hx:(bd g)[0]? = some x):g=x:=by
 match hb:bd g,h with
 | [y],_=>
   rw [hb] at hx;simp only [List.getElem?_cons_zero,aJ] at hx;subst hx;rw [←fL g,hb,Bg];simp [bv,val]
theorem yB {q:Rat}:lI (RQ.of q) = .agg [.int .i64 q.num.sign,bT q.num.natAbs, .int .i64 1,bT q.den]:=rfl
set_option maxHeartbeats 1000000 in
theorem yQ (n d:Int) (hd:d≠0) (hs2:(bd d.natAbs).length<8589934592:=by omega) (hs:(bd n.natAbs).length<8589934592:=by omega):aN prog 137 [(zT n:aF),(zT d:aF)] (.ret [lI (.of (uZ n d))]):=by
 refine cM func137 Qw ?_;have hsd:=cK d
 have key:∀ m:Int,m.natAbs=n.natAbs→uZ n d=mkRat m d.natAbs→(uZ n d).den=d.natAbs/Nat.gcd n.natAbs d.natAbs∧(uZ n d).num.natAbs=n.natAbs/Nat.gcd n.natAbs d.natAbs∧(uZ n d).num.sign=m.sign:=fun m hm e=>by
  have:=Ys (z:=m) (d:=d.natAbs);rw [hm] at this;rw [e];exact ⟨this.2.1,this.2.2.1,this.2.2.2⟩
 have hg:0<Nat.gcd n.natAbs d.natAbs:=Nat.gcd_pos_of_pos_right _ (by omega);have hgd:Nat.gcd n.natAbs d.natAbs≤d.natAbs:=Nat.gcd_le_right _ (by omega);have hgl:=fG hgd;have hdg:=Nat.div_pos hgd hg;have hnl:=fG (Nat.div_le_self n.natAbs (Nat.gcd n.natAbs d.natAbs));have hdl:=fG (Nat.div_le_self d.natAbs (Nat.gcd n.natAbs d.natAbs));apply vn bE rfl;dsimp only [aA,aB];refine vs _ rfl ?_ ?_<;>intro h1
 ·have hd0:d<0:=by rcases hsd with ⟨h,e⟩ | ⟨h,e⟩ | ⟨h,e⟩<;>omega
  have hR:uZ n d=mkRat (-n) d.natAbs:=by rw [uZ,if_pos hd0]
  obtain ⟨k1,k2,k3⟩:=key (-n) (Int.natAbs_neg n) hR;generalize uZ n d=q at *;apply aC (BB n) rfl;dsimp only [aA,aB];apply aC (BB d) rfl;dsimp only [aA,aB];have hc:=Mp (-n) (-d) (by rw [Int.natAbs_neg];omega) (by rw [Int.natAbs_neg];omega);rw [Int.natAbs_neg,Int.natAbs_neg] at hc;apply aC hc rfl;generalize hG:Nat.gcd n.natAbs d.natAbs=g at *;dsimp only [aA,aB];apply vn (aQ eW (aP _)) rfl;dsimp only [aA,aB];apply vn bQ rfl;dsimp only [aA,aB];refine vs _ rfl ?_ ?_<;>intro h7
  ·obtain ⟨x,hx⟩:∃ x,(bd g)[0]? = some x:=⟨_,bI (by rw [Int.natAbs_natCast] at h7;omega)⟩
   apply vn (aW eW (show (bd ((g:Int)).natAbs)[0]? = some x from hx)) rfl;dsimp only [aA,aB];apply vn (bG NT) rfl;dsimp only [aA,aB];apply vn bQ rfl;dsimp only [aA,aB];refine vs _ rfl ?_ ?_<;>intro h11
   ·have hg1:g=1:=by
     have:=xA (g:=g) (by rw [Int.natAbs_natCast] at h7;omega) hx;omega
    rw [hg1,Nat.div_one] at k1 k2;refine aK ?_;rw [yB,k3,k2,k1];show [aF.agg [.int .i64 (-n).sign,bT (-n).natAbs, .int .i64 (-d).sign,bT (-d).natAbs]]=_;rw [Int.natAbs_neg,Int.natAbs_neg,Int.sign_eq_one_of_pos (show 0 < -d by omega)]
   have ho1:=jR n.natAbs g hg;have ho2:=jR d.natAbs g hg;rw [←k2] at ho1 hnl;rw [←k1] at ho2 hdl hdg;have hn':(-n).natAbs=n.natAbs:=Int.natAbs_neg n;have hd':(-d).natAbs=d.natAbs:=Int.natAbs_neg d;rw [←hn'] at ho1;rw [←hd'] at ho2;apply aC ho1 rfl;dsimp only [aA,aB];apply aC ho2 rfl;dsimp only [aA,aB];apply aC (fX (-n).sign q.num _ (gX _) (by rw [fL]) (fun _=>k3)) rfl;dsimp only [aA,aB];apply aC (fX 1 (q.den:Int) _ (gX _) (by rw [fL];rfl) (fun _=>Int.sign_eq_one_of_pos (by omega))) rfl;dsimp only [aA,aB];refine aK ?_;rw [yB];show [aF.agg [.int .i64 q.num.sign,bT q.num.natAbs, .int .i64 (q.den:Int).sign,bT (q.den:Int).natAbs]]=_;rw [Int.sign_eq_one_of_pos (show (0:Int)<q.den by omega),Int.natAbs_natCast]
  have ho1:=jR n.natAbs g hg;have ho2:=jR d.natAbs g hg;rw [←k2] at ho1 hnl;rw [←k1] at ho2 hdl hdg;have hn':(-n).natAbs=n.natAbs:=Int.natAbs_neg n;have hd':(-d).natAbs=d.natAbs:=Int.natAbs_neg d;rw [←hn'] at ho1;rw [←hd'] at ho2;apply aC ho1 rfl;dsimp only [aA,aB];apply aC ho2 rfl;dsimp only [aA,aB];apply aC (fX (-n).sign q.num _ (gX _) (by rw [fL]) (fun _=>k3)) rfl;dsimp only [aA,aB];apply aC (fX 1 (q.den:Int) _ (gX _) (by rw [fL];rfl) (fun _=>Int.sign_eq_one_of_pos (by omega))) rfl;dsimp only [aA,aB];refine aK ?_;rw [yB];show [aF.agg [.int .i64 q.num.sign,bT q.num.natAbs, .int .i64 (q.den:Int).sign,bT (q.den:Int).natAbs]]=_;rw [Int.sign_eq_one_of_pos (show (0:Int)<q.den by omega),Int.natAbs_natCast]
 have hd0:0<d:=by rcases hsd with ⟨h,e⟩ | ⟨h,e⟩ | ⟨h,e⟩<;>omega
 have hR:uZ n d=mkRat n d.natAbs:=by rw [uZ,if_neg (by omega)]
 obtain ⟨k1,k2,k3⟩:=key n rfl hR;generalize uZ n d=q at *;have hc:=Mp n d;apply aC hc rfl;generalize hG:Nat.gcd n.natAbs d.natAbs=g at *;dsimp only [aA,aB];apply vn (aQ eW (aP _)) rfl;dsimp only [aA,aB];apply vn bQ rfl;dsimp only [aA,aB];refine vs _ rfl ?_ ?_<;>intro h26
 ·obtain ⟨x,hx⟩:∃ x,(bd g)[0]? = some x:=⟨_,bI (by rw [Int.natAbs_natCast] at h26;omega)⟩
  apply vn (aW eW (show (bd ((g:Int)).natAbs)[0]? = some x from hx)) rfl;dsimp only [aA,aB];apply vn (bG NT) rfl;dsimp only [aA,aB];apply vn bQ rfl;dsimp only [aA,aB];refine vs _ rfl ?_ ?_<;>intro h30
  ·have hg1:g=1:=by
    have:=xA (g:=g) (by rw [Int.natAbs_natCast] at h26;omega) hx;omega
   rw [hg1,Nat.div_one] at k1 k2;refine aK ?_;rw [yB,k3,k2,k1];show [aF.agg [.int .i64 n.sign,bT n.natAbs, .int .i64 d.sign,bT d.natAbs]]=_;rw [Int.sign_eq_one_of_pos (show 0<d by omega)]
  have ho1:=jR n.natAbs g hg;have ho2:=jR d.natAbs g hg;rw [←k2] at ho1 hnl;rw [←k1] at ho2 hdl hdg;apply aC ho1 rfl;dsimp only [aA,aB];apply aC ho2 rfl;dsimp only [aA,aB];apply aC (fX n.sign q.num _ (gX _) (by rw [fL]) (fun _=>k3)) rfl;dsimp only [aA,aB];apply aC (fX 1 (q.den:Int) _ (gX _) (by rw [fL];rfl) (fun _=>Int.sign_eq_one_of_pos (by omega))) rfl;dsimp only [aA,aB];refine aK ?_;rw [yB];show [aF.agg [.int .i64 q.num.sign,bT q.num.natAbs, .int .i64 (q.den:Int).sign,bT (q.den:Int).natAbs]]=_;rw [Int.sign_eq_one_of_pos (show (0:Int)<q.den by omega),Int.natAbs_natCast]
 have ho1:=jR n.natAbs g hg;have ho2:=jR d.natAbs g hg;rw [←k2] at ho1 hnl;rw [←k1] at ho2 hdl hdg;apply aC ho1 rfl;dsimp only [aA,aB];apply aC ho2 rfl;dsimp only [aA,aB];apply aC (fX n.sign q.num _ (gX _) (by rw [fL]) (fun _=>k3)) rfl;dsimp only [aA,aB];apply aC (fX 1 (q.den:Int) _ (gX _) (by rw [fL];rfl) (fun _=>Int.sign_eq_one_of_pos (by omega))) rfl;dsimp only [aA,aB];refine aK ?_;rw [yB];show [aF.agg [.int .i64 q.num.sign,bT q.num.natAbs, .int .i64 (q.den:Int).sign,bT (q.den:Int).natAbs]]=_;rw [Int.sign_eq_one_of_pos (show (0:Int)<q.den by omega),Int.natAbs_natCast]
theorem JT {n:Int} {d:Nat}:uZ n (d:Int)=mkRat n d:=by
 rw [uZ,if_neg (by omega),Int.natAbs_natCast]
theorem Jn {a b:Rat} (hb:b≠0):uZ (a.num*(b.den:Int)) ((a.den:Int)*b.num)=a/b:=by
 have hn:b.num≠0:=fun e=>hb (Rat.num_eq_zero.1 e);have ha:=a.den_pos;rw [←SG hb,uZ,Int.natAbs_mul,Int.natAbs_natCast];by_cases h:b.num<0
 ·rw [if_pos (Int.mul_neg_of_pos_of_neg (by omega) h),decide_eq_true h,if_pos rfl,Int.mul_neg]
 ·rw [if_neg (by have:=Int.mul_nonneg (show (0:Int)≤a.den by omega) (show 0≤b.num by omega);omega),decide_eq_false h,if_neg (by simp)]
theorem YH {n d:Int} (hd:d≠0):uZ n d=(n:Rat)/(d:Rat):=by
 have h:=Jn (a:=(n:Rat)) (b:=(d:Rat)) (by rw [Ne,←Rat.num_eq_zero,Rat.num_intCast];exact hd);rw [Rat.num_intCast,Rat.num_intCast,Rat.den_intCast,Rat.den_intCast] at h;rw [←h];congr 1<;>omega
theorem Fit.bd {B:Nat} {q:Rat} (h:Fit B q):(bd q.num.natAbs).length≤B∧(bd q.den).length≤B:=⟨fZ h.1,fZ h.2⟩
theorem lD (n:Int) (h1:-9223372036854775808≤n:=by omega) (h2:n<9223372036854775808:=by omega):aN prog 50 [(.one (.int .i64 n):aF)] (.ret [lI (.of (n:Rat))]):=by
 refine cM func50 aj4 ?_;apply aC (oZ n h1 h2) rfl;dsimp only [aA,aB];apply aC (oZ 1) rfl;dsimp only [aA,aB];rw [yB,Rat.num_intCast,Rat.den_intCast];exact aK rfl
theorem Sb (n d:Int) (h1:-9223372036854775808≤n:=by omega) (h2:n<9223372036854775808:=by omega) (hd:d≠0:=by omega) (h3:-9223372036854775808≤d:=by omega) (h4:d<9223372036854775808:=by omega):aN prog 79 [(.one (.int .i64 n):aF),(.one (.int .i64 d):aF)] (.ret [lI (.of ((n:Rat)/(d:Rat)))]):=by
 refine cM func79 aX2 ?_;apply aC (oZ n h1 h2) rfl;dsimp only [aA,aB];apply aC (oZ d h3 h4) rfl;dsimp only [aA,aB];have hn:=fZ (n:=n.natAbs) (B:=64) (by omega);have hdd:=fZ (n:=d.natAbs) (B:=64) (by omega);apply aC (yQ n d hd) rfl;rw [YH hd];exact aK rfl
theorem am9 (a:RQ):aN prog 105 [(lI a:aF)] (.ret [lI (.of (-a.q))]):=by
 refine cM func105 ax1 ?_;apply aC (BB a.q.num) rfl;dsimp only [aA,aB];apply aC (kI a) rfl;dsimp only [aA,aB];refine aK ?_;rw [yB,Rat.neg_num,Rat.neg_den];show [aF.agg [.int .i64 (-a.q.num).sign,bT (-a.q.num).natAbs, .int .i64 (a.q.den:Int).sign,bT (a.q.den:Int).natAbs]]=_;have:=a.q.den_pos;rw [Int.sign_eq_one_of_pos (show (0:Int)<a.q.den by omega),Int.natAbs_natCast]
theorem BC (a:RQ):aN prog 60 [(lI a:aF)] (.ret [lI (.of a.q.abs)]):=by
 refine cM func60 as2 ?_;apply aC (Mj a.q.num) rfl;dsimp only [aA,aB];apply aC (kI a) rfl;dsimp only [aA,aB];refine aK ?_;rw [yB,(lM a.q).1,(lM a.q).2];show [aF.agg [.int .i64 ((a.q.num.natAbs:Nat):Int).sign,bT ((a.q.num.natAbs:Nat):Int).natAbs, .int .i64 (a.q.den:Int).sign,bT (a.q.den:Int).natAbs]]=_;have:=a.q.den_pos;rw [Int.sign_eq_one_of_pos (show (0:Int)<a.q.den by omega)];simp only [Int.natAbs_natCast]
theorem Wp (a:RQ):aN prog 46 [(lI a:aF)] (.ret [.one (.int .i64 a.q.num.sign)]):=by
 refine cM func46 Wj ?_;exact aK rfl
theorem tZ (a b:RQ) (A B:Nat) (ha:Fit A a.q) (hb:Fit B b.q) (h:A+B≤4294967296:=by omega):aN prog 104 [(lI a:aF),(lI b:aF)] (.ret [lI (.of (a.q*b.q))]):=by
 refine cM func104 aq2 ?_;obtain ⟨ha1,ha2⟩:=Fit.bd ha;obtain ⟨hb1,hb2⟩:=Fit.bd hb;have hn:=fZ (bH ha.1 hb.1);have hd:=fZ (bH ha.2 hb.2);have hpa:=a.q.den_pos;have hpb:=b.q.den_pos;apply aC (jM a.q.num b.q.num) rfl;dsimp only [aA,aB];apply aC (kI a) rfl;dsimp only [aA,aB];apply aC (kI b) rfl;dsimp only [aA,aB];apply aC (jM (a.q.den:Int) (b.q.den:Int) (by rw [Int.natAbs_natCast,Int.natAbs_natCast];omega)) rfl;rw [←Int.natCast_mul];dsimp only [aA,aB];apply aC (yQ _ ((a.q.den*b.q.den:Nat):Int) (by have:=Nat.mul_pos hpa hpb;omega) (by rw [Int.natAbs_natCast];omega) (by rw [Int.natAbs_mul];omega)) rfl;rw [JT,←Rat.mul_def'];exact aK rfl
theorem tY (a b:RQ) (A B:Nat) (ha:Fit A a.q) (hb:Fit B b.q) (h:A+B≤4294967296:=by omega):aN prog 48 [(lI a:aF),(lI b:aF)] (.ret [lI (.of (a.q+b.q))]):=by
 refine cM func48 aB7 ?_;obtain ⟨ha1,ha2⟩:=Fit.bd ha;obtain ⟨hb1,hb2⟩:=Fit.bd hb;have hn1:=fZ (bH ha.1 hb.2);have hn2:=fZ (bH hb.1 ha.2);have hd:=fZ (bH ha.2 hb.2);have hpa:=a.q.den_pos;have hpb:=b.q.den_pos
 have hsum:(bd (a.q.num*(b.q.den:Int)+b.q.num*(a.q.den:Int)).natAbs).length≤A+B+1:=by
  apply fZ;have h1:=bH ha.1 hb.2;have h2:=bH hb.1 ha.2;rw [Nat.add_comm B A] at h2;rw [Nat.pow_succ];refine Nat.lt_of_le_of_lt (Int.natAbs_add_le _ _) ?_;rw [Int.natAbs_mul,Int.natAbs_mul,Int.natAbs_natCast,Int.natAbs_natCast];omega
 apply aC (kI b) rfl;dsimp only [aA,aB];apply aC (jM a.q.num (b.q.den:Int) (by rw [Int.natAbs_natCast];omega)) rfl;dsimp only [aA,aB];apply aC (kI a) rfl;dsimp only [aA,aB];apply aC (jM b.q.num (a.q.den:Int) (by rw [Int.natAbs_natCast];omega)) rfl;dsimp only [aA,aB];apply aC (Mo _ _ (by rw [Int.natAbs_mul,Int.natAbs_natCast];omega) (by rw [Int.natAbs_mul,Int.natAbs_natCast];omega)) rfl;dsimp only [aA,aB];apply aC (kI a) rfl;dsimp only [aA,aB];apply aC (kI b) rfl;dsimp only [aA,aB];apply aC (jM (a.q.den:Int) (b.q.den:Int) (by rw [Int.natAbs_natCast,Int.natAbs_natCast];omega)) rfl;rw [←Int.natCast_mul a.q.den b.q.den];dsimp only [aA,aB];apply aC (yQ _ ((a.q.den*b.q.den:Nat):Int) (by have:=Nat.mul_pos hpa hpb;omega) (by rw [Int.natAbs_natCast];omega)) rfl;rw [JT,←Rat.add_def'];exact aK rfl
theorem an3 (a b:RQ) (A B:Nat) (ha:Fit A a.q) (hb:Fit B b.q) (h:A+B≤4294967296:=by omega):aN prog 141 [(lI a:aF),(lI b:aF)] (.ret [lI (.of (a.q-b.q))]):=by
 refine cM func141 aB6 ?_;apply aC (am9 b) rfl;dsimp only [aA,aB];apply aC (tY a (.of (-b.q)) A B ha hb.neg h) rfl;rw [RQ.SE,←Rat.sub_eq_add_neg];exact aK rfl
theorem Qz (a b:RQ) (A B:Nat) (hb0:b.q≠0) (ha:Fit A a.q) (hb:Fit B b.q) (h:A+B≤4294967296:=by omega):aN prog 102 [(lI a:aF),(lI b:aF)] (.ret [lI (.of (a.q/b.q))]):=by
 refine cM func102 ae4 ?_;obtain ⟨ha1,ha2⟩:=Fit.bd ha;obtain ⟨hb1,hb2⟩:=Fit.bd hb;have hn:=fZ (bH ha.1 hb.2);have hd:=fZ (bH ha.2 hb.1);have hpa:=a.q.den_pos;have hnb:b.q.num≠0:=fun e=>hb0 (Rat.num_eq_zero.1 e);apply aC (kI b) rfl;dsimp only [aA,aB];apply aC (jM a.q.num (b.q.den:Int) (by rw [Int.natAbs_natCast];omega)) rfl;dsimp only [aA,aB];apply aC (kI a) rfl;dsimp only [aA,aB];apply aC (jM (a.q.den:Int) b.q.num (by rw [Int.natAbs_natCast];omega)) rfl;dsimp only [aA,aB];apply aC (yQ _ _ (Int.mul_ne_zero (by omega) hnb) (by rw [Int.natAbs_mul,Int.natAbs_natCast];omega) (by rw [Int.natAbs_mul,Int.natAbs_natCast];omega)) rfl;rw [Jn hb0];exact aK rfl
theorem Kd (a b:RQ) (A B:Nat) (ha:Fit A a.q) (hb:Fit B b.q) (h:A+B≤4294967296:=by omega):aN prog 47 [(lI a:aF),(lI b:aF)] (.ret [.one (.int .i64 (lS a.q b.q))]):=by
 refine cM func47 aB8 ?_;obtain ⟨ha1,ha2⟩:=Fit.bd ha;obtain ⟨hb1,hb2⟩:=Fit.bd hb;have hn1:=fZ (bH ha.1 hb.2);have hn2:=fZ (bH hb.1 ha.2);apply aC (kI b) rfl;dsimp only [aA,aB];apply aC (jM a.q.num (b.q.den:Int) (by rw [Int.natAbs_natCast];omega)) rfl;dsimp only [aA,aB];apply aC (kI a) rfl;dsimp only [aA,aB];apply aC (jM b.q.num (a.q.den:Int) (by rw [Int.natAbs_natCast];omega)) rfl;dsimp only [aA,aB];apply aC (Vj _ _ (by rw [Int.natAbs_mul,Int.natAbs_natCast];omega) (by rw [Int.natAbs_mul,Int.natAbs_natCast];omega)) rfl;rw [←zU];exact aK rfl
end Go.Sy
