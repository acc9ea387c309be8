/- The reference's integers: digits to the base 2^15, the highest first. The reference's integers: the operations. The reference's integers: division, common divisors. The reference's rational numbers.
-/
import Derived.Test.YtdmcadckdnnglaaGreatDoorNb
import Derived.Test.YtdmcadckdnnglaaGreatDoorPa
set_option linter.unusedVariables false
set_option linter.unusedSimpArgs false
namespace Go.Sy
open Go Go.Proofs Tryz Ord
def LU:Tr:=.ret [(W 1 0)]
def aF0:Tr:=.split (.u 3 0) (.need (.prim [(W 1 0),(WK 0)] none) (.indexAddr 45 (tT 7) (.const (I3 0))) 0 false (eY 4 0 none 3 8 (bB .eql 3 9 0 5 0 4 (.split (.u 6 0) (.need (.prim [(W 1 0),(WK 1)] none) (.slice 45 (tT 12) (some (.const (I3 1))) none none) 45 false (.back 0 [lV 7 0])) LU)))) LU
def aU5:Tr:=.loop 0 [lV 0 0] (cY 1 0 3 45 (bB .gtr 3 4 0 2 0 4 aF0))
theorem Tj:aN prog f260 (fun _=>none) [.v none]=aU5:=by kernel_rfl
def aR7:Tr:=aP 260 [(W 1 0)] [none] [5] [45] 45 true (cY 2 0 7 45 (bB .eql 3 8 0 3 0 4 (.split (.u 4 0) (.ret [(.agg [(tE (.int .i64 0)),tN])]) (.ret [(.agg [(U 0 0),(U 2 0)])]))))
theorem XH:aN prog f211 (fun _=>none) [.v none, .v none]=aR7:=by kernel_rfl
def aG5:Tr:=bB .lss 3 12 0 5 0 4 (.split (.u 6 0) (.need (.prim [(W 5 0)] none) (.unOp .neg 3 (tT 14)) 3 false (.need (.lit 1 [[(.u 7 0)]]) (.buildSlice 45 1 #[(0,(tT 16))]) 45 false (.need (.app 1 8 (some 8) none (some 3)) (.call ⟨.builtin .append,#[(tT 17),(tT 18)],#[45,45]⟩) 45 false (bB .quo 2 20 32768 2 0 2 (.back 0 [lV 10 0, .row 9]))))) (.need (.lit 1 [[(.u 5 0)]]) (.buildSlice 45 1 #[(0,(tT 16))]) 45 false (.need (.app 1 8 (some 7) none (some 3)) (.call ⟨.builtin .append,#[(tT 17),(tT 18)],#[45,45]⟩) 45 false (bB .quo 2 20 32768 2 0 2 (.back 0 [lV 9 0, .row 8])))))
def Zt:Tr:=bB .rem 2 10 32768 2 0 2 aG5
def TZ:Tr:=.ret [(G2 5)]
def aJ0:Tr:=bB .lss 2 6 0 0 0 4 (.split (.u 1 0) (.loop 0 [lV 0 0, .nilrow] (bB .neq 2 8 0 2 0 4 (.split (.u 4 0) Zt (aP 211 [(WK (-1)),(.one (.c (.sr 1 3)))] [(some 2)] [22,23] [3,45] 47 true TZ)))) (.loop 0 [lV 0 0, .nilrow] (bB .neq 2 8 0 2 0 4 (.split (.u 4 0) Zt (aP 211 [(WK 1),(.one (.c (.sr 1 3)))] [(some 2)] [22,23] [3,45] 47 true TZ)))))
theorem Xa:aN prog f139 (fun _=>none) [.v none]=aJ0:=by kernel_rfl
def ab0:Tr:=.ret [(WK (-1))]
def ZC:Tr:=.ret [(WK 1)]
def av5:Tr:=eY 14 0 none 3 33 (gE 1 0 6 0 45 35 36 (eY 16 0 none 3 37 (bR .gtr 3 34 38 15 0 17 0 4 (.split (.u 18 0) ZC (bB .add 3 20 1 6 0 3 (.back 0 [lV 5 0,lV 19 0]))))))
def ad6:Tr:=gE 0 0 6 0 45 22 23 (eY 9 0 none 3 24 (gE 1 0 6 0 45 26 27 (eY 11 0 none 3 28 (bR .lss 3 25 29 10 0 12 0 4 (.split (.u 13 0) ab0 (gE 0 0 6 0 45 31 32 av5))))))
def Va:Tr:=.ret [(WK 0)]
def aF1:Tr:=cY 1 0 8 45 (bR .neq 3 7 9 2 0 3 0 4 (.split (.u 4 0) (cY 0 0 11 45 (cY 1 0 13 45 (bR .lss 3 12 14 5 0 6 0 4 (.split (.u 7 0) ab0 ZC)))) (.loop 0 [lK 0,lK 0] (cY 0 0 17 45 (bR .lss 3 16 18 6 0 7 0 4 (.split (.u 8 0) ad6 Va))))))
def aJ7:Tr:=cY 0 0 6 45 aF1
theorem Tm:aN prog f215 (fun _=>none) [.v none, .v none]=aJ7:=by kernel_rfl
def aE0:Tr:=.split (.u 3 0) Va (cY 0 0 10 45 (bB .sub 3 11 1 4 0 3 (bR .sub 3 12 13 5 0 1 0 3 (gE 0 0 6 0 45 9 14 (eY 7 0 none 3 15 (.ret [(W 8 0)]))))))
def aI8:Tr:=cY 0 0 6 45 (bR .geq 3 5 7 1 0 2 0 4 aE0)
theorem TH:aN prog f263 (fun _=>none) [.v none, .v none]=aI8:=by kernel_rfl
def Zu:Tr:=.ret [(W 5 0)]
def aE4:Tr:=cY 0 0 5 45 (cY 1 0 7 45 (bR .gtr 3 6 8 2 0 3 0 4 (.split (.u 4 0) (cY 0 0 10 45 Zu) (cY 1 0 12 45 Zu))))
theorem Lj:aN prog f262 (fun _=>none) [.v none, .v none]=aE4:=by kernel_rfl
def aw8:Tr:=bB .sub 3 40 32768 16 0 3 (bB .sub 3 43 1 4 0 3 (bR .sub 3 44 45 19 0 7 0 3 (.need (.idx 8 (.u 20 0)) (.indexAddr 45 (tT 42) (tT 46)) 0 false (.need (.strow 8 1 (.u 20 0) 0 [(.u 18 0)]) (.store 3 (tT 48) (tT 47)) 0 false (bB .add 3 21 1 7 0 3 (.back 0 [lK 1,lV 22 0, .row 21]))))))
def af2:Tr:=.split (.u 17 0) aw8 (bB .sub 3 43 1 4 0 3 (bR .sub 3 44 45 18 0 7 0 3 (.need (.idx 8 (.u 19 0)) (.indexAddr 45 (tT 42) (tT 46)) 0 false (.need (.strow 8 1 (.u 19 0) 0 [(.u 16 0)]) (.store 3 (tT 48) (tT 47)) 0 false (bB .add 3 21 1 7 0 3 (.back 0 [lK (-1),lV 21 0, .row 20]))))))
def ay9:Tr:=bB .sub 3 40 32768 14 0 3 (bB .sub 3 43 1 4 0 3 (bR .sub 3 44 45 18 0 7 0 3 (.need (.idx 8 (.u 19 0)) (.indexAddr 45 (tT 42) (tT 46)) 0 false (.need (.strow 8 1 (.u 19 0) 0 [(.u 17 0)]) (.store 3 (tT 48) (tT 47)) 0 false (bB .add 3 21 1 7 0 3 (.back 0 [lK 1,lV 21 0, .row 20]))))))
def ak7:Tr:=.split (.u 16 0) ay9 (bB .sub 3 43 1 4 0 3 (bR .sub 3 44 45 17 0 7 0 3 (.need (.idx 8 (.u 18 0)) (.indexAddr 45 (tT 42) (tT 46)) 0 false (.need (.strow 8 1 (.u 18 0) 0 [(.u 14 0)]) (.store 3 (tT 48) (tT 47)) 0 false (bB .add 3 21 1 7 0 3 (.back 0 [lK 0,lV 20 0, .row 19]))))))
def aO4:Tr:=bR .mul 3 26 29 2 0 11 0 3 (bR .add 3 25 30 10 0 12 0 3 (bR .add 3 31 32 13 0 6 0 3 (bB .lss 3 34 0 14 0 4 (.split (.u 15 0) (bB .add 3 36 32768 14 0 3 (bB .geq 3 38 32768 16 0 4 af2)) (bB .geq 3 38 32768 14 0 4 ak7)))))
def aO7:Tr:=bB .add 3 14 1 3 0 3 (.need (.make [(.int .i64 0)] 8 (.u 4 0) (.u 4 0)) (.makeSlice 45 (tT 16) (tT 16)) 45 false (.loop 0 [lK 0,lK 0, .row 5] (bR .lss 3 18 19 7 0 4 0 4 (.split (.u 9 0) (aP 263 [(W 0 0),(W 7 0)] [none] [23,24] [45,3] 3 false (aP 263 [(W 1 0),(W 7 0)] [none] [27,28] [45,3] 3 false aO4)) (aP 260 [(.one (.c (.sr 1 8)))] [none] [49] [45] 45 true (.ret [(W 10 0)]))))))
def aP9:Tr:=aP 262 [(W 0 0),(W 1 0)] [none] [12,13] [45,45] 3 true aO7
theorem Xk:aN prog f214 (fun _=>none) [.v none, .v none, .v none]=aP9:=by kernel_rfl
def Zz:Tr:=.ret [(.agg [(U 1 0),(U 0 1)])]
def aM9:Tr:=.need (.prim [(W 0 0)] none) (.unOp .neg 3 (tT 4)) 3 false Zz
theorem XL:aN prog f183 (fun _=>none) [.v (some 2)]=aM9:=by kernel_rfl
def aM2:Tr:=bR .mul 3 4 6 0 0 0 0 3 Zz
theorem YS:aN prog f148 (fun _=>none) [.v (some 2)]=aM2:=by kernel_rfl
def LG:Tr:=.ret [(G2 8)]
def aT3:Tr:=bR .eql 3 14 16 0 0 1 0 4 (.split (.u 4 0) (.need (.call 214 [(W 0 1),(W 1 1),(WK 1)] [none]) (.call ⟨.value (.func 214),#[(tT 21),(tT 23),(.const (I3 1))],#[45,45,3]⟩) 45 true (aP 211 [(W 0 0),(W 5 0)] [(some 2)] [19,24] [3,45] 47 true (.ret [(G2 6)]))) (aP 215 [(W 0 1),(W 1 1)] [none] [27,29] [45,45] 3 true (bB .geq 3 30 0 5 0 4 (.split (.u 6 0) (.need (.call 214 [(W 0 1),(W 1 1),(WK (-1))] [none]) (.call ⟨.value (.func 214),#[(tT 35),(tT 37),(.const (I3 (-1)))],#[45,45,3]⟩) 45 true (aP 211 [(W 0 0),(W 7 0)] [(some 2)] [33,38] [3,45] 47 true LG)) (.need (.call 214 [(W 1 1),(W 0 1),(WK (-1))] [none]) (.call ⟨.value (.func 214),#[(tT 43),(tT 45),(.const (I3 (-1)))],#[45,45,3]⟩) 45 true (aP 211 [(W 1 0),(W 7 0)] [(some 2)] [41,46] [3,45] 47 true LG))))))
def aU6:Tr:=bB .eql 3 6 0 0 0 4 (.split (.u 2 0) (.ret [(G2 1)]) (bB .eql 3 10 0 1 0 4 (.split (.u 3 0) (.ret [(G2 0)]) aT3)))
theorem VB:aN prog f138 (fun _=>none) [.v (some 2), .v (some 2)]=aU6:=by kernel_rfl
def aT4:Tr:=aP 183 [(G2 1)] [(some 2)] [6] [47] 47 true (aP 138 [(G2 0),(G2 2)] [(some 2)] [5,7] [47,47] 47 true (.ret [(G2 3)]))
theorem Xt:aN prog f210 (fun _=>none) [.v (some 2), .v (some 2)]=aT4:=by kernel_rfl
def ae1:Tr:=bB .add 3 58 1 27 0 3 (bB .rem 3 60 32768 26 0 3 (.need (.idx 15 (.u 28 0)) (.indexAddr 45 (tT 55) (tT 59)) 0 false (.need (.strow 15 1 (.u 28 0) 0 [(.u 29 0)]) (.store 3 (tT 62) (tT 61)) 0 false (bB .quo 3 63 32768 26 0 3 (bB .sub 3 32 1 14 0 3 (.back 1 [lV 31 0,lV 32 0, .row 30]))))))
def as0:Tr:=eY 20 0 none 3 44 (gE 1 1 14 0 45 47 48 (eY 22 0 none 3 49 (bR .mul 3 45 50 21 0 23 0 3 (bR .add 3 40 51 19 0 24 0 3 (bR .add 3 52 53 25 0 13 0 3 (bR .add 3 56 57 8 0 14 0 3 ae1))))))
def ao1:Tr:=bB .geq 3 30 0 14 0 4 (.split (.u 16 0) (bR .add 3 35 36 8 0 14 0 3 (bB .add 3 37 1 17 0 3 (.need (.idx 15 (.u 18 0)) (.indexAddr 45 (tT 34) (tT 38)) 0 false (.need (.ldrow 15 (.u 18 0) 0 1 false) (.load 3 (tT 39)) 3 false (gE 0 1 8 0 45 42 43 as0))))) (.need (.idx 15 (.u 8 0)) (.indexAddr 45 (tT 65) (tT 66)) 0 false (.need (.strow 15 1 (.u 8 0) 0 [(.u 13 0)]) (.store 3 (tT 68) (tT 67)) 0 false (bB .sub 3 24 1 8 0 3 (.back 0 [lV 18 0, .row 17])))))
def aN5:Tr:=bB .sub 3 20 1 6 0 3 (.loop 0 [lV 7 0, .row 5] (bB .geq 3 22 0 8 0 4 (.split (.u 10 0) (cY 1 1 27 45 (bB .sub 3 28 1 11 0 3 (.loop 1 [lK 0,lV 12 0, .row 9] ao1))) (bR .mul 3 70 72 0 0 1 0 3 (aP 211 [(W 11 0),(.one (.c (.sr 1 9)))] [(some 2)] [73,74] [3,45] 47 true (.ret [(G2 12)]))))))
def aW0:Tr:=cY 0 1 11 45 (cY 1 1 14 45 (bR .add 3 12 15 2 0 3 0 3 (.need (.make [(.int .i64 0)] 8 (.u 4 0) (.u 4 0)) (.makeSlice 45 (tT 16) (tT 16)) 45 false (cY 0 1 19 45 aN5))))
theorem Wz:aN prog f135 (fun _=>none) [.v (some 2), .v (some 2)]=aW0:=by kernel_rfl
def aX0:Tr:=aP 210 [(G2 0),(G2 1)] [(some 2)] [5,6] [47,47] 47 true (.ret [(W 2 0)])
theorem Ys:aN prog f134 (fun _=>none) [.v (some 2), .v (some 2)]=aX0:=by kernel_rfl
abbrev rB (ds:List Nat):List (List aI):=ds.map fun (d:Nat)=>[aI.int .i64 (d:Int)]
abbrev sB (ds:List Nat):aI:=.slice 1 (rB ds)
abbrev bT (n:Nat):aI:=sB (bd n)
abbrev zC (z:Int):List aI:=[.int .i64 z.sign,bT z.natAbs]
abbrev zT (z:Int):aG:=.agg (zC z)
theorem Rv:DB 32768 []:=fun d hd=>by cases hd
theorem Vn {n:Nat} (h:n=0):aI.Sub (.exact (.slice none 0 0)) (bT n):=by
 subst h;rw [bT,HJ];exact aI.Sub.nil
theorem sliceB {ds:List Nat} {x:Operand} {ty:Nat} {y:Operand} {k:IntKind} {n:Int} {m:Nat} (h0:0≤n) (hm:n.toNat=m) (hn:m≤ds.length):aZ prog (.slice 45 x (some y) none none) ty [.one (sB ds), .one (.int k n)] (.one (sB (ds.drop m))):=by
 have:=Gv (P:=prog) (T:=45) (x:=x) (y:=y) (ty:=ty) (k:=k) (n:=n) (ts:=rB ds) eI h0 (by rw [List.length_map,hm];exact hn);rw [hm,rB,←List.map_drop] at this;exact this
theorem YL {ds:List Nat} {x:Operand} {ty:Nat} {y:Operand} {k:IntKind} {n:Int} {m:Nat} (h0:0≤n) (hm:n.toNat=m) (hn:m≤ds.length):aZ prog (.slice 45 x none (some y) none) ty [.one (sB ds), .one (.int k n)] (.one (sB (ds.take m))):=by
 have:=Gb (P:=prog) (T:=45) (x:=x) (y:=y) (ty:=ty) (k:=k) (n:=n) (ts:=rB ds) eI h0 (by rw [List.length_map,hm];exact hn);rw [hm,rB,←List.map_take] at this;exact this
theorem tG (ds:List Nat) (hd:DB 32768 ds) (hs:ds.length<4611686018427387904):aK prog 260 [(.one (sB ds):aG)] (.ret [.one (bT (bv ds))]):=by
 refine aD (args:=[.v none]) (ins:=[.v (.one (sB ds))]) (hints:=(fun _=>none)) fo (by kernel_rfl) func260 ⟨rfl,trivial⟩ ?_;rw [Tj];dsimp only [List.map,In.env,aA,aB];refine bF {xs:List Nat // DB 32768 xs∧bv xs=bv ds∧xs.length≤ds.length} (fun g=>[.one (sB g.1)]) (fun g=>g.1.length) ⟨ds,hd,rfl,Nat.le_refl _⟩ aO.rfl (fun _=>rfl) ?_;rintro ⟨xs,hx,hv,hl⟩;dsimp only [aA,aB] at hx hv hl ⊢;refine vn (aQ eI (List.length_map _)) rfl ?_;dsimp only [aA,aB];refine vn eF rfl ?_;dsimp only [aA,aB];refine vs _ rfl (fun h3=>?_) (fun h3=>?_)
 ·obtain ⟨d,hget⟩:∃ d,xs[0]? = some d:=⟨_,List.getElem?_eq_getElem (by omega)⟩
  refine vn (aY eI (by omega) (by omega) hget) rfl ?_;dsimp only [aA,aB];refine vn (bH Ov) rfl ?_;dsimp only [aA,aB];refine vn bW rfl ?_;dsimp only [aA,aB];refine vs _ rfl (fun h7=>?_) (fun h7=>?_)
  ·refine vn (sliceB (by omega) rfl (by omega)) rfl ?_;dsimp only [aA,aB]
   exact aU rfl ⟨⟨xs.drop 1,hx.drop 1,by
    have h7:d=0:=by omega
    rw [←hv,Pk hget,h7,Nat.mul_zero,Nat.add_zero],by show (xs.drop 1).length≤_;rw [List.length_drop];omega⟩,aO.rfl,by show (xs.drop 1).length<xs.length;rw [List.length_drop];omega⟩
  have e:bd (bv ds)=xs:=by
   rw [←hv];refine aL3 hx fun d' h'=>?_;rw [List.head?_eq_getElem?,hget] at h';simp only [Option.some.injEq] at h';subst h';omega
  rw [bT,e];exact aL rfl
 have e:bd (bv ds)=xs:=by
  have:xs = []:=List.eq_nil_of_length_eq_zero (by omega);rw [←hv,this];exact HJ
 rw [bT,e];exact aL rfl
theorem fG (s z:Int) (ds:List Nat) (hd:DB 32768 ds) (hs:ds.length<4611686018427387904) (h1:z.natAbs=bv ds) (h2:bv ds≠0→z.sign=s):aK prog 211 [(.one (.int .i64 s):aG),(.one (sB ds):aG)] (.ret [zT z]):=by
 refine aD (args:=[.v none, .v none]) (ins:=[.v (.one (.int .i64 s)), .v (.one (sB ds))]) (hints:=(fun _=>none)) fo (by kernel_rfl) func211 ⟨rfl,rfl,trivial⟩ ?_;rw [XH];dsimp only [List.map,In.env,aA,aB];have hlen:(bd (bv ds)).length=0↔bv ds=0:=by rw [List.length_eq_zero_iff,Hh]
 have hl2:(bd (bv ds)).length≤ds.length:=jO (KC hd);refine aC (tG ds hd hs) rfl ?_;dsimp only [aA,aB];refine vn (aQ eI (List.length_map _)) rfl ?_;dsimp only [aA,aB];refine vn bW rfl ?_;dsimp only [aA,aB];refine vs _ rfl (fun h3=>?_) (fun h3=>?_)
 ·have hz:z=0:=by
   have:=hlen.1 (by omega);omega
  subst hz;exact eN ⟨⟨aI.Sub.same,Vn rfl,trivial⟩,trivial⟩
 refine aL ?_;rw [←h2 (fun h=>h3 (by have:=hlen.2 h;omega)),←h1];rfl
theorem Ik {ds:List Nat} {m n:Nat} (hm:m≠0) (h:bv ds+32768^ds.length*m=n) (hn:n<18446744073709551616):ds.length≤4:=by
 rcases Nat.lt_or_ge ds.length 5 with h1 | h1
 ·omega
 ·have h2:32768^5≤32768^ds.length:=Nat.pow_le_pow_right (by omega) h1;have h3:32768^ds.length≤32768^ds.length*m:=Nat.le_mul_of_pos_right _ (by omega);omega
theorem Av {ds:List Nat} {m n:Nat} (h:bv ds+32768^ds.length*m=n):bv (m%32768::ds)+32768^(m%32768::ds).length*(m/32768)=n:=by
 rw [BD,List.length_cons,Nat.pow_succ,Nat.add_assoc,Nat.mul_assoc,←Nat.mul_add,Nat.mod_add_div];exact h
theorem neg_tmod {m:Nat}:(-(m:Int)).tmod 32768 = -((m%32768:Nat):Int):=by rw [Int.neg_tmod,Int.tmod_eq_emod_of_nonneg (by omega)];omega
theorem neg_tdiv {m:Nat}:(-(m:Int)).tdiv 32768 = -((m/32768:Nat):Int):=by rw [Int.neg_tdiv,Int.tdiv_eq_ediv_of_nonneg (by omega)];omega
theorem oP (n:Int) (h1:-9223372036854775808≤n) (h2:n<9223372036854775808):aK prog 139 [(.one (.int .i64 n):aG)] (.ret [zT n]):=by
 refine aD (args:=[.v none]) (ins:=[.v (.one (.int .i64 n))]) (hints:=(fun _=>none)) fo (by kernel_rfl) func139 ⟨rfl,trivial⟩ ?_;rw [Xa];dsimp only [List.map,In.env,aA,aB];refine vn bE rfl ?_;dsimp only [aA,aB];refine vs _ rfl (fun h1=>?_) (fun h1'=>?_)
 ·refine bF {g:Nat×List Nat // bv g.2+32768^g.2.length*g.1=n.natAbs∧DB 32768 g.2∧g.1≤9223372036854775808∧g.2.length≤5} (fun g=>[.one (.int .i64 (-(g.1.1:Int))), .rows (rB g.1.2)]) (fun g=>g.1.1) ⟨(n.natAbs,[]),by simp [bv,val],Rv,by show n.natAbs≤_;omega,by simp⟩ ⟨aG.Sub.of_eq (congrArg (fun q=>aG.one (aI.int .i64 q)) (by show n = -((n.natAbs:Nat):Int);omega)),aG.Sub.same,trivial⟩ (fun _=>rfl) ?_;rintro ⟨⟨m,ds⟩,hv,hd,hm,hl⟩;dsimp only [aA,aB] at hv hd hm hl ⊢;refine vn iP rfl ?_;dsimp only [aA,aB];refine vs _ rfl (fun h4=>?_) (fun h4=>?_)
  ·have hm0:m≠0:=by omega
   have hl4:=Ik hm0 hv (by omega)
   have hd2:DB 32768 (m%32768::ds):=fun d hd'=>by
    rcases List.mem_cons.1 hd' with rfl | hd'
    ·omega
    ·exact hd d hd'
   refine vn (CT (c:=-((m%32768:Nat):Int)) (by decide) neg_tmod) rfl ?_;dsimp only [aA,aB];refine vn bE rfl ?_;dsimp only [aA,aB];refine vs _ rfl (fun h7=>?_) (fun h7=>?_)
   ·refine vn (FP (by omega) (by omega)) rfl ?_;dsimp only [aA,aB];refine dC (us:=rB [m%32768]) (by show [[aI.int .i64 _]] = [[aI.int .i64 _]];congr 3;omega) ?_;dsimp only [aA,aB];refine vA (ts:=rB [m%32768]) (us:=rB ds) (vs:=rB (m%32768::ds)) rfl rfl rfl (by simp;omega) (by simp [maxLen];omega) ?_;dsimp only [aA,aB];refine vn (qU (c:=-((m/32768:Nat):Int)) (by decide) (by rw [neg_tdiv];exact dN (by omega) (by omega))) rfl ?_;dsimp only [aA,aB];exact aU rfl ⟨⟨(m/32768,m%32768::ds),Av hv,hd2,by show m/32768≤_;omega,by show ds.length+1≤5;omega⟩,aO.rfl,by show m/32768<m;omega⟩
   refine dC (us:=rB [m%32768]) (by show [[aI.int .i64 _]] = [[aI.int .i64 _]];congr 3;omega) ?_;dsimp only [aA,aB];refine vA (ts:=rB [m%32768]) (us:=rB ds) (vs:=rB (m%32768::ds)) rfl rfl rfl (by simp;omega) (by simp [maxLen];omega) ?_;dsimp only [aA,aB];refine vn (qU (c:=-((m/32768:Nat):Int)) (by decide) (by rw [neg_tdiv];exact dN (by omega) (by omega))) rfl ?_;dsimp only [aA,aB];exact aU rfl ⟨⟨(m/32768,m%32768::ds),Av hv,hd2,by show m/32768≤_;omega,by show ds.length+1≤5;omega⟩,aO.rfl,by show m/32768<m;omega⟩
  have hm0:m=0:=by omega
  subst hm0;rw [Nat.mul_zero,Nat.add_zero] at hv;refine aC (fG (-1) n ds hd (by omega) hv.symm (fun _=>Int.sign_eq_neg_one_of_neg h1)) rfl ?_;exact aL rfl
 refine bF {g:Nat×List Nat // bv g.2+32768^g.2.length*g.1=n.natAbs∧DB 32768 g.2∧g.1≤9223372036854775808∧g.2.length≤5∧g.1<9223372036854775808} (fun g=>[.one (.int .i64 (g.1.1:Int)), .rows (rB g.1.2)]) (fun g=>g.1.1) ⟨(n.natAbs,[]),by simp [bv,val],Rv,by show n.natAbs≤_;omega,by simp,by show n.natAbs<_;omega⟩ ⟨aG.Sub.of_eq (congrArg (fun q=>aG.one (aI.int .i64 q)) (by show n=((n.natAbs:Nat):Int);omega)),aG.Sub.same,trivial⟩ (fun _=>rfl) ?_;rintro ⟨⟨m,ds⟩,hv,hd,hm,hl,hmm⟩;dsimp only [aA,aB] at hv hd hm hl hmm ⊢;refine vn iP rfl ?_;dsimp only [aA,aB];refine vs _ rfl (fun h21=>?_) (fun h21=>?_)
 ·have hm0:m≠0:=by omega
  have hl4:=Ik hm0 hv (by omega)
  have hd2:DB 32768 (m%32768::ds):=fun d hd'=>by
   rcases List.mem_cons.1 hd' with rfl | hd'
   ·omega
   ·exact hd d hd'
  refine vn (gK (by omega) (by omega)) rfl ?_;dsimp only [aA,aB];refine vn bE rfl ?_;dsimp only [aA,aB];refine vs _ rfl (fun h24=>?_) (fun h24=>?_)
  ·exfalso;omega
  refine dC (us:=rB [m%32768]) (by show [[aI.int .i64 _]] = [[aI.int .i64 _]];congr 3) ?_;dsimp only [aA,aB];refine vA (ts:=rB [m%32768]) (us:=rB ds) (vs:=rB (m%32768::ds)) rfl rfl rfl (by simp;omega) (by simp [maxLen];omega) ?_;dsimp only [aA,aB];refine vn (iJ (by omega) (by omega) (by omega)) rfl ?_;dsimp only [aA,aB];exact aU rfl ⟨⟨(m/32768,m%32768::ds),Av hv,hd2,by show m/32768≤_;omega,by show ds.length+1≤5;omega,by show m/32768<_;omega⟩,aO.rfl,by show m/32768<m;omega⟩
 have hm0:m=0:=by omega
 subst hm0;rw [Nat.mul_zero,Nat.add_zero] at hv;refine aC (fG 1 n ds hd (by omega) hv.symm (fun h=>Int.sign_eq_one_of_pos (by omega))) rfl ?_;exact aL rfl
theorem IE {xs ys:List Nat} (hx:DB 32768 xs) {i x y:Nat} (hl:xs.length=ys.length) (hi:xs[i]? = some x) (hj:ys[i]? = some y) (ht:xs.take i=ys.take i) (hxy:x<y):bv xs<bv ys:=by
 have e:∀ (zs:List Nat) (z:Nat),zs[i]? = some z→bv zs=bv (zs.take i)*32768^(zs.length-i)+(bv (zs.drop (i+1))+32768^(zs.length-(i+1))*z):=fun zs z hz=>by
  have hlt:i<zs.length:=(List.getElem?_eq_some_iff.1 hz).1
  conv=>lhs;rw [←List.take_append_drop i zs]
  rw [Qi,List.length_drop]
  congr 1
  rw [List.drop_eq_getElem_cons hlt,(List.getElem?_eq_some_iff.1 hz).2,BD,List.length_drop]
 rw [e xs x hi,e ys y hj,ht,hl];have h1:=KC (hx.drop (i+1));rw [List.length_drop,hl] at h1;have h2:32768^(ys.length-(i+1))*(x+1)≤32768^(ys.length-(i+1))*y:=Nat.mul_le_mul_left _ hxy;rw [Nat.mul_add,Nat.mul_one] at h2;omega
theorem vT {a b:Nat} (h:(bd a).length<(bd b).length):a<b:=by
 rcases Nat.lt_or_ge a b with h1 | h1
 ·exact h1
 ·have:=fC h1;omega
theorem qK (a b:Nat) (hs:(bd a).length+(bd b).length<1099511627776):aK prog 215 [(.one (bT a):aG),(.one (bT b):aG)] (.ret [.one (.int .i64 (eE a b))]):=by
 refine aD (args:=[.v none, .v none]) (ins:=[.v (.one (bT a)), .v (.one (bT b))]) (hints:=(fun _=>none)) fo (by kernel_rfl) func215 ⟨rfl,rfl,trivial⟩ ?_;rw [Tm];dsimp only [List.map,In.env,aA,aB];refine vn (aQ eI (List.length_map _)) rfl ?_;dsimp only [aA,aB];refine vn (aQ eI (List.length_map _)) rfl ?_;dsimp only [aA,aB];refine vn iP rfl ?_;dsimp only [aA,aB];refine vs _ rfl (fun h3=>?_) (fun h3=>?_)
 ·refine vn (aQ eI (List.length_map _)) rfl ?_;dsimp only [aA,aB];refine vn (aQ eI (List.length_map _)) rfl ?_;dsimp only [aA,aB];refine vn bE rfl ?_;dsimp only [aA,aB];refine vs _ rfl (fun h7=>?_) (fun h7=>?_)
  ·rw [uH (by have:=vT (a:=a) (b:=b) (by omega);omega)];exact aL rfl
  rw [uT (by have:=vT (a:=b) (b:=a) (by omega);omega)];exact aL rfl
 have hlen:(bd a).length=(bd b).length:=by omega
 refine bF {i:Nat // i≤(bd a).length∧(bd a).take i=(bd b).take i} (fun g=>[.one (.int .i64 0), .one (.int .i64 g.1)]) (fun g=>(bd a).length-g.1) ⟨0,Nat.zero_le _,rfl⟩ aO.rfl (fun _=>rfl) ?_;rintro ⟨i,hi,ht⟩;dsimp only [aA,aB] at hi ht ⊢;refine vn (aQ eI (List.length_map _)) rfl ?_;dsimp only [aA,aB];refine vn bE rfl ?_;dsimp only [aA,aB];refine vs _ rfl (fun h13=>?_) (fun h13=>?_)
 ·obtain ⟨x,hx⟩:∃ x,(bd a)[i]? = some x:=⟨_,List.getElem?_eq_getElem (by omega)⟩
  obtain ⟨y,hy⟩:∃ y,(bd b)[i]? = some y:=⟨_,List.getElem?_eq_getElem (by omega)⟩
  refine vn (aY eI (by omega) (by omega) hx) rfl ?_;dsimp only [aA,aB];refine vn (bH Ov) rfl ?_;dsimp only [aA,aB];refine vn (aY eI (by omega) (by omega) hy) rfl ?_;dsimp only [aA,aB];refine vn (bH Ov) rfl ?_;dsimp only [aA,aB];refine vn bE rfl ?_;dsimp only [aA,aB];refine vs _ rfl (fun h19=>?_) (fun h19=>?_)
  ·have:=IE (gN a) hlen hx hy ht (by omega);rw [eW,eW] at this;rw [uH (by omega)];exact aL rfl
  refine vn (aY eI (by omega) (by omega) hx) rfl ?_;dsimp only [aA,aB];refine vn (bH Ov) rfl ?_;dsimp only [aA,aB];refine vn (aY eI (by omega) (by omega) hy) rfl ?_;dsimp only [aA,aB];refine vn (bH Ov) rfl ?_;dsimp only [aA,aB];refine vn eF rfl ?_;dsimp only [aA,aB];refine vs _ rfl (fun h26=>?_) (fun h26=>?_)
  ·have:=IE (gN b) hlen.symm hy hx ht.symm (by omega);rw [eW,eW] at this;rw [uT (by omega)];exact aL rfl
  refine vn (aE (by omega) (by omega)) rfl ?_;dsimp only [aA,aB];exact aU rfl ⟨⟨i+1,by omega,by rw [take_succ hx,take_succ hy,ht,show x=y by omega]⟩,aO.rfl,by show (bd a).length-(i+1)<(bd a).length-i;omega⟩
 have hie:i=(bd a).length:=by omega
 subst hie
 have e:bd a=bd b:=by
  rw [List.take_length,List.take_of_length_le (by omega)] at ht;exact ht
 have:a=b:=by rw [←eW a,e,eW]
 rw [this,BM];exact aL rfl
theorem Ce (n i:Nat) (hi:i<4611686018427387904) (hs:(bd n).length<1099511627776):aK prog 263 [(.one (bT n):aG),(.one (.int .i64 i):aG)] (.ret [.one (.int .i64 ((n/32768^i%32768:Nat):Int))]):=by
 refine aD (args:=[.v none, .v none]) (ins:=[.v (.one (bT n)), .v (.one (.int .i64 i))]) (hints:=(fun _=>none)) fo (by kernel_rfl) func263 ⟨rfl,rfl,trivial⟩ ?_;rw [TH];dsimp only [List.map,In.env,aA,aB];have hdg:=Ir n i;refine vn (aQ eI (List.length_map _)) rfl ?_;dsimp only [aA,aB];refine vn eS rfl ?_;dsimp only [aA,aB];refine vs _ rfl (fun h2=>?_) (fun h2=>?_)
 ·rw [List.getElem?_eq_none_iff.2 (by rw [List.length_reverse];omega)] at hdg;rw [←hdg];exact aL rfl
 refine vn (aQ eI (List.length_map _)) rfl ?_;dsimp only [aA,aB];refine vn (aJ (by omega) (by omega)) rfl ?_;dsimp only [aA,aB];refine vn (aJ (by omega) (by omega)) rfl ?_;dsimp only [aA,aB];obtain ⟨d,hd⟩:∃ d,(bd n).reverse[i]? = some d:=⟨_,List.getElem?_eq_getElem (by rw [List.length_reverse];omega)⟩
 have hd2:(bd n)[(bd n).length-1-i]? = some d:=by rw [BH (by omega)];exact hd
 rw [hd] at hdg;refine vn (aY eI (by omega) (by omega) hd2) rfl ?_;dsimp only [aA,aB];refine vn (bH Ov) rfl ?_;dsimp only [aA,aB];rw [←hdg];exact aL rfl
theorem LC (a b:Nat):aK prog 262 [(.one (bT a):aG),(.one (bT b):aG)] (.ret [.one (.int .i64 ((max (bd a).length (bd b).length:Nat):Int))]):=by
 refine aD (args:=[.v none, .v none]) (ins:=[.v (.one (bT a)), .v (.one (bT b))]) (hints:=(fun _=>none)) fo (by kernel_rfl) func262 ⟨rfl,rfl,trivial⟩ ?_;rw [Lj];dsimp only [List.map,In.env,aA,aB];refine vn (aQ eI (List.length_map _)) rfl ?_;dsimp only [aA,aB];refine vn (aQ eI (List.length_map _)) rfl ?_;dsimp only [aA,aB];refine vn eF rfl ?_;dsimp only [aA,aB];refine vs _ rfl (fun h3=>?_) (fun h3=>?_)
 ·refine vn (aQ eI (List.length_map _)) rfl ?_;dsimp only [aA,aB];refine aL ?_;show [aG.one (aI.int .i64 _)] = [aG.one (aI.int .i64 _)]
  congr 3;omega
 refine vn (aQ eI (List.length_map _)) rfl ?_;dsimp only [aA,aB];refine aL ?_;show [aG.one (aI.int .i64 _)] = [aG.one (aI.int .i64 _)]
 congr 3;omega
theorem val_rev (n:Nat):val 32768 (bd n).reverse=n:=eW n
theorem IY (n i:Nat):(bd n).reverse[i]?.getD 0=n/32768^i%32768:=Ir n i
set_option maxHeartbeats 1000000 in
theorem jQ (a b r:Nat) (k:Int) (hk:k=1∨k = -1) (hr:(r:Int)=a+k*b) (hs:(bd a).length<274877906944) (hs2:(bd b).length<274877906944):aK prog 214 [(.one (bT a):aG),(.one (bT b):aG),(.one (.int .i64 k):aG)] (.ret [.one (bT r)]):=by
 refine aD (args:=[.v none, .v none, .v none]) (ins:=[.v (.one (bT a)), .v (.one (bT b)), .v (.one (.int .i64 k))]) (hints:=(fun _=>none)) fo (by kernel_rfl) func214 ⟨rfl,rfl,rfl,trivial⟩ ?_;rw [Xk];dsimp only [List.map,In.env,aA,aB];obtain ⟨n,hn⟩:∃ n,max (bd a).length (bd b).length+1=n:=⟨_,rfl⟩
 have hrl:r<32768^n:=by
  have h1:=Cz a;have h2:=Cz b;have h3:32768^(bd a).length≤32768^(n-1):=Nat.pow_le_pow_right (by omega) (by omega);have h4:32768^(bd b).length≤32768^(n-1):=Nat.pow_le_pow_right (by omega) (by omega);have h5:32768^n=32768^(n-1)*32768:=by rw [←Nat.pow_succ];congr 1;omega
  rcases hk with rfl | rfl<;>omega
 refine aC (LC a b) rfl ?_;dsimp only [aA,aB];refine vn (aE (by omega) (by omega)) rfl ?_;dsimp only [aA,aB];refine BX (n:=n) (f:=fun d:Nat=>[aI.int .i64 (d:Int)]) 0 rfl rfl (by omega) rfl (by omega) (by simp only [maxLen];omega) ?_;dsimp only [aA,aB];refine bF {g:Nat×Int×List Nat // Es 32768 (bd a).reverse (bd b).reverse n k g.1 g.2.1 g.2.2} (fun g=>[.one (.int .i64 g.1.2.1), .one (.int .i64 g.1.1), .rows (rB g.1.2.2.reverse)]) (fun g=>n-g.1.1) ⟨(0,0,List.replicate n 0),Es.init (by omega) _ _ _ _⟩ ⟨aG.Sub.same,aG.Sub.same,aG.Sub.of_eq (by rw [List.reverse_replicate];rfl),trivial⟩ (fun _=>rfl) ?_;rintro ⟨⟨i,c,os⟩,hI⟩;dsimp only [aA,aB] at hI ⊢;have hil:=hI.le;have hol:=hI.len;have hc0:=hI.c0;have hc1:=hI.c1;refine vn bE rfl ?_;dsimp only [aA,aB];refine vs _ rfl (fun h5=>?_) (fun h5=>?_)
 ·obtain ⟨x,hx⟩:∃ x,a/32768^i%32768=x:=⟨_,rfl⟩
  obtain ⟨y,hy⟩:∃ y,b/32768^i%32768=y:=⟨_,rfl⟩
  have hxB:x<32768:=by rw [←hx];exact Nat.mod_lt _ (by omega)
  have hyB:y<32768:=by rw [←hy];exact Nat.mod_lt _ (by omega)
  have hcall1:=Ce a i (by omega) (by omega);have hcall2:=Ce b i (by omega) (by omega);rw [hx] at hcall1;rw [hy] at hcall2
  have hnext:∀ (z:Nat) (c':Int),z<32768 → -1≤c'→c'≤1→(z:Int)+32768*c'=x+k*y+c→Es 32768 (bd a).reverse (bd b).reverse n k (i+1) c' (os.set i z):=fun z c' h1 h2 h3 h4=>
   hI.next (by omega) (by rw [IY,hx]) (by rw [IY,hy]) h2 h3 h1 h4
  have hst:∀ z,os.reverse.set (n-1-i) z=(os.set i z).reverse:=fun z=>by rw [←hol];exact HO (by omega)
  obtain ⟨o0,hgo⟩:∃ o0,os.reverse[n-1-i]? = some o0:=⟨_,List.getElem?_eq_getElem (by rw [List.length_reverse];omega)⟩
  have hky:k*y=y∨k*y = -(y:Int):=by rcases hk with rfl | rfl<;>simp
  generalize hkyv:k*(y:Int)=ky at hnext hky;refine aC hcall1 rfl ?_;dsimp only [aA,aB];refine aC hcall2 rfl ?_;dsimp only [aA,aB];refine vn (sO (c:=ky) (by rw [hkyv];exact dN (by omega) (by omega))) rfl ?_;dsimp only [aA,aB];refine vn (aE (by omega) (by omega)) rfl ?_;dsimp only [aA,aB];refine vn (aE (by omega) (by omega)) rfl ?_;dsimp only [aA,aB];refine vn bE rfl ?_;dsimp only [aA,aB];refine vs _ rfl (fun h12=>?_) (fun h12=>?_)
  ·refine vn (aE (by omega) (by omega)) rfl ?_;dsimp only [aA,aB];refine vn eS rfl ?_;dsimp only [aA,aB];refine vs _ rfl (fun h15=>?_) (fun h15=>?_)
   ·exfalso;omega
   refine vn (aJ (by omega) (by omega)) rfl ?_;dsimp only [aA,aB];refine vn (aJ (by omega) (by omega)) rfl ?_;dsimp only [aA,aB];refine cV rfl rfl (by omega) (by rw [List.length_reverse];omega) ?_;refine lY (d':=(x+ky+c+32768).toNat) rfl rfl (by omega) (by omega) hgo (by show [aI.int .i64 _] = [aI.int .i64 _];congr 2;omega) ?_;rw [hst];dsimp only [aA,aB];refine vn (aE (by omega) (by omega)) rfl ?_;dsimp only [aA,aB];exact aU rfl ⟨⟨(i+1,-1,os.set i (x+ky+c+32768).toNat),hnext _ (-1) (by omega) (by omega) (by omega) (by omega)⟩,aO.rfl,by show n-(i+1)<n-i;omega⟩
  refine vn eS rfl ?_;dsimp only [aA,aB];refine vs _ rfl (fun h30=>?_) (fun h30=>?_)
  ·refine vn (aJ (by omega) (by omega)) rfl ?_;dsimp only [aA,aB];refine vn (aJ (by omega) (by omega)) rfl ?_;dsimp only [aA,aB];refine vn (aJ (by omega) (by omega)) rfl ?_;dsimp only [aA,aB];refine cV rfl rfl (by omega) (by rw [List.length_reverse];omega) ?_;refine lY (d':=(x+ky+c-32768).toNat) rfl rfl (by omega) (by omega) hgo (by show [aI.int .i64 _] = [aI.int .i64 _];congr 2;omega) ?_;rw [hst];dsimp only [aA,aB];refine vn (aE (by omega) (by omega)) rfl ?_;dsimp only [aA,aB];exact aU rfl ⟨⟨(i+1,1,os.set i (x+ky+c-32768).toNat),hnext _ 1 (by omega) (by omega) (by omega) (by omega)⟩,aO.rfl,by show n-(i+1)<n-i;omega⟩
  refine vn (aJ (by omega) (by omega)) rfl ?_;dsimp only [aA,aB];refine vn (aJ (by omega) (by omega)) rfl ?_;dsimp only [aA,aB];refine cV rfl rfl (by omega) (by rw [List.length_reverse];omega) ?_;refine lY (d':=(x+ky+c).toNat) rfl rfl (by omega) (by omega) hgo (by show [aI.int .i64 _] = [aI.int .i64 _];congr 2;omega) ?_;rw [hst];dsimp only [aA,aB];refine vn (aE (by omega) (by omega)) rfl ?_;dsimp only [aA,aB];exact aU rfl ⟨⟨(i+1,0,os.set i (x+ky+c).toNat),hnext _ 0 (by omega) (by omega) (by omega) (by omega)⟩,aO.rfl,by show n-(i+1)<n-i;omega⟩
 have hie:i=n:=by omega
 subst hie;have hf:=hI.fin (by omega) (by rw [List.length_reverse];omega) (by rw [List.length_reverse];omega) (r:=r) (by rw [val_rev,val_rev];exact hr) hrl;refine aC (tG os.reverse hI.dg.rev (by rw [List.length_reverse];omega)) rfl ?_;dsimp only [aA,aB];refine aL ?_;rw [←hf,bv,List.reverse_reverse];rfl
open Go Go.Proofs Tryz Ord
theorem BN (z:Int):-1≤z.sign∧z.sign≤1:=by rcases cJ z with ⟨_,e⟩ | ⟨_,e⟩ | ⟨_,e⟩<;>omega
theorem HT (z:Int):aK prog 183 [(zT z:aG)] (.ret [zT (-z)]):=by
 refine aD (args:=[.v (some 2)]) (ins:=[.v (zT z)]) (hints:=(fun _=>none)) fo (by kernel_rfl) func183 ⟨rfl,trivial⟩ ?_;rw [XL];dsimp only [List.map,In.env,aA,aB];have:=BN z;refine vn (FP (by omega) (by omega)) rfl ?_;dsimp only [aA,aB];refine aL ?_;show [aG.agg [.int .i64 (-z.sign),bT z.natAbs]] = [zT (-z)];rw [zT,zC,Int.sign_neg,Int.natAbs_neg]
theorem Vo (z:Int):aK prog 148 [(zT z:aG)] (.ret [zT (z.natAbs:Int)]):=by
 refine aD (args:=[.v (some 2)]) (ins:=[.v (zT z)]) (hints:=(fun _=>none)) fo (by kernel_rfl) func148 ⟨rfl,trivial⟩ ?_;rw [YS];dsimp only [List.map,In.env,aA,aB]
 refine vn (sO (c:=((z.natAbs:Nat):Int).sign) (by
  rcases cJ z with ⟨h,e⟩ | ⟨h,e⟩ | ⟨h,e⟩<;>rw [e]
  ·rw [Int.sign_eq_one_of_pos (by omega)];exact dN (by omega) (by omega)
  ·rw [h];exact dN (by omega) (by omega)
  ·rw [Int.sign_eq_one_of_pos (by omega)];exact dN (by omega) (by omega))) rfl ?_
 exact aL rfl
theorem ap4 {a b:Nat}:(bd (a+b)).length≤max (bd a).length (bd b).length+1:=by
 apply jO;have h1:=Cz a;have h2:=Cz b;have h3:32768^(bd a).length≤32768^(max (bd a).length (bd b).length):=Nat.pow_le_pow_right (by omega) (by omega);have h4:32768^(bd b).length≤32768^(max (bd a).length (bd b).length):=Nat.pow_le_pow_right (by omega) (by omega);rw [Nat.pow_succ];omega
theorem MN (x y:Int) (hx:(bd x.natAbs).length<137438953472) (hy:(bd y.natAbs).length<137438953472):aK prog 138 [(zT x:aG),(zT y:aG)] (.ret [zT (x+y)]):=by
 refine aD (args:=[.v (some 2), .v (some 2)]) (ins:=[.v (zT x), .v (zT y)]) (hints:=(fun _=>none)) fo (by kernel_rfl) func138 ⟨rfl,rfl,trivial⟩ ?_;rw [VB];dsimp only [List.map,In.env,aA,aB];have hx0:=cJ x;have hy0:=cJ y
 have hl:∀ n,n≤x.natAbs+y.natAbs→(bd n).length<274877906944:=fun n hn=>by
  have h1:=fC hn;have h2:=ap4 (a:=x.natAbs) (b:=y.natAbs);omega
 refine vn bW rfl ?_;dsimp only [aA,aB];refine vs _ rfl (fun h1=>?_) (fun h1=>?_)
 ·rw [show x=0 by omega,Int.zero_add];exact aL rfl
 refine vn bW rfl ?_;dsimp only [aA,aB];refine vs _ rfl (fun h4=>?_) (fun h4=>?_)
 ·rw [show y=0 by omega,Int.add_zero];exact aL rfl
 refine vn bW rfl ?_;dsimp only [aA,aB];refine vs _ rfl (fun h7=>?_) (fun h7=>?_)
 ·refine aC (jQ x.natAbs y.natAbs (x.natAbs+y.natAbs) 1 (.inl rfl) (by omega) (by omega) (by omega)) rfl ?_;dsimp only [aA,aB]
  refine aC (fG x.sign (x+y) _ (gN _) (by have:=hl _ (Nat.le_refl _);omega) (by rw [eW];omega) (fun _=>by
   rcases hx0 with ⟨h,e⟩ | ⟨h,e⟩ | ⟨h,e⟩
   ·rw [e];exact Int.sign_eq_neg_one_of_neg (by omega)
   ·omega
   ·rw [e];exact Int.sign_eq_one_of_pos (by omega))) rfl ?_
  exact aL rfl
 refine aC (qK x.natAbs y.natAbs (by omega)) rfl ?_;dsimp only [aA,aB];refine vn eS rfl ?_;dsimp only [aA,aB]
 have hci:(0≤eE (x.natAbs:Int) (y.natAbs:Int))↔y.natAbs≤x.natAbs:=by
  have:=sH (a:=(x.natAbs:Int)) (b:=(y.natAbs:Int));omega
 refine vs _ rfl (fun h13=>?_) (fun h13=>?_)
 ·refine aC (jQ x.natAbs y.natAbs (x.natAbs-y.natAbs) (-1) (.inr rfl) (by omega) (by omega) (by omega)) rfl ?_;dsimp only [aA,aB]
  refine aC (fG x.sign (x+y) _ (gN _) (by have:=hl (x.natAbs-y.natAbs) (by omega);omega) (by rw [eW];omega) (fun hne=>by
   rw [eW] at hne;rcases hx0 with ⟨h,e⟩ | ⟨h,e⟩ | ⟨h,e⟩
   ·rw [e];exact Int.sign_eq_neg_one_of_neg (by omega)
   ·omega
   ·rw [e];exact Int.sign_eq_one_of_pos (by omega))) rfl ?_
  exact aL rfl
 refine aC (jQ y.natAbs x.natAbs (y.natAbs-x.natAbs) (-1) (.inr rfl) (by omega) (by omega) (by omega)) rfl ?_;dsimp only [aA,aB]
 refine aC (fG y.sign (x+y) _ (gN _) (by have:=hl (y.natAbs-x.natAbs) (by omega);omega) (by rw [eW];omega) (fun hne=>by
  rw [eW] at hne;rcases hy0 with ⟨h,e⟩ | ⟨h,e⟩ | ⟨h,e⟩
  ·rw [e];exact Int.sign_eq_neg_one_of_neg (by omega)
  ·omega
  ·rw [e];exact Int.sign_eq_one_of_pos (by omega))) rfl ?_
 exact aL rfl
theorem XO (x y:Int) (hx:(bd x.natAbs).length<137438953472) (hy:(bd y.natAbs).length<137438953472):aK prog 210 [(zT x:aG),(zT y:aG)] (.ret [zT (x-y)]):=by
 refine aD (args:=[.v (some 2), .v (some 2)]) (ins:=[.v (zT x), .v (zT y)]) (hints:=(fun _=>none)) fo (by kernel_rfl) func210 ⟨rfl,rfl,trivial⟩ ?_;rw [Xt];dsimp only [List.map,In.env,aA,aB];refine aC (HT y) rfl ?_;dsimp only [aA,aB];refine aC (MN x (-y) hx (by rw [Int.natAbs_neg];exact hy)) rfl ?_;rw [←Int.sub_eq_add_neg];exact aL rfl
theorem Vb (x y:Int):(x-y).sign=eE x y:=by
 unfold eE;rcases cJ (x-y) with ⟨h,e⟩ | ⟨h,e⟩ | ⟨h,e⟩<;>rw [e]
 ·rw [if_pos (by omega)]
 ·rw [if_neg (by omega),if_neg (by omega)]
 ·rw [if_neg (by omega),if_pos (by omega)]
theorem Vw (x y:Int) (hx:(bd x.natAbs).length<137438953472) (hy:(bd y.natAbs).length<137438953472):aK prog 134 [(zT x:aG),(zT y:aG)] (.ret [.one (.int .i64 (eE x y))]):=by
 refine aD (args:=[.v (some 2), .v (some 2)]) (ins:=[.v (zT x), .v (zT y)]) (hints:=(fun _=>none)) fo (by kernel_rfl) func134 ⟨rfl,rfl,trivial⟩ ?_;rw [Ys];dsimp only [List.map,In.env,aA,aB];refine aC (XO x y hx hy) rfl ?_;dsimp only [aA,aB];rw [←Vb];exact aL rfl
theorem On {n la i:Nat} (h:la=(bd n).length) (hi:i<la):∃ d,(bd n)[la-1-i]? = some d∧(bd n).reverse[i]? = some d∧d<32768:=by
 subst h;have hd:(bd n).reverse[i]? = some ((bd n).reverse[i]'(by rw [List.length_reverse];exact hi)):=List.getElem?_eq_getElem _;exact ⟨_,by rw [BH hi];exact hd,hd,(gN n).rev.get hd⟩
set_option maxHeartbeats 2000000 in
theorem jA (x y:Int) (hs:(bd x.natAbs).length+(bd y.natAbs).length<274877906944):aK prog 135 [(zT x:aG),(zT y:aG)] (.ret [zT (x*y)]):=by
 refine aD (args:=[.v (some 2), .v (some 2)]) (ins:=[.v (zT x), .v (zT y)]) (hints:=(fun _=>none)) fo (by kernel_rfl) func135 ⟨rfl,rfl,trivial⟩ ?_;rw [Wz];dsimp only [List.map,In.env,aA,aB];obtain ⟨la,hla⟩:∃ n,(bd x.natAbs).length=n:=⟨_,rfl⟩
 obtain ⟨lb,hlb⟩:∃ n,(bd y.natAbs).length=n:=⟨_,rfl⟩
 have hra:(bd x.natAbs).reverse.length=la:=by rw [List.length_reverse,hla]
 have hrb:(bd y.natAbs).reverse.length=lb:=by rw [List.length_reverse,hlb]
 have hsx:=BN x;have hsy:=BN y;refine vn (aQ eI (List.length_map _)) rfl ?_;dsimp only [aA,aB];refine vn (aQ eI (List.length_map _)) rfl ?_;dsimp only [aA,aB];refine vn (aE (by omega) (by omega)) rfl ?_;dsimp only [aA,aB];rw [hla,hlb];refine BX (n:=la+lb) (f:=fun d:Nat=>[aI.int .i64 (d:Int)]) 0 rfl rfl (by omega) rfl (by omega) (by simp only [maxLen];omega) ?_;dsimp only [aA,aB];refine vn (aQ eI (List.length_map _)) rfl ?_;dsimp only [aA,aB];refine vn (aJ (by omega) (by omega)) rfl ?_;dsimp only [aA,aB];rw [hla];refine bF {g:Nat×List Nat // EJ 32768 (bd x.natAbs).reverse (bd y.natAbs).reverse g.1 g.2} (fun g=>[.one (.int .i64 ((la:Int)-1-g.1.1)), .rows (rB g.1.2.reverse)]) (fun g=>la-g.1.1) ⟨(0,List.replicate (la+lb) 0),by have:=EJ.init (B:=32768) (by omega) (bd x.natAbs).reverse (bd y.natAbs).reverse;rw [hra,hrb] at this;exact this⟩ ⟨aG.Sub.of_eq (congrArg (fun q=>aG.one (aI.int .i64 q)) (by show (la:Int)-1=(la:Int)-1-((0:Nat):Int);omega)),aG.Sub.of_eq (by rw [List.reverse_replicate];rfl),trivial⟩ (fun _=>rfl) ?_;rintro ⟨⟨i,os⟩,hO⟩;dsimp only [aA,aB] at hO ⊢;have hil:=hO.le;rw [hra] at hil;refine vn eS rfl ?_;dsimp only [aA,aB];refine vs _ rfl (fun h8=>?_) (fun h8=>?_)
 ·refine vn (aQ eI (List.length_map _)) rfl ?_;obtain ⟨d,hd1,hd2,hd3⟩:=On (n:=x.natAbs) (la:=la) (i:=i) hla.symm (by omega);dsimp only [aA,aB];refine vn (aJ (by omega) (by omega)) rfl ?_;dsimp only [aA,aB];rw [hlb];refine bF {g:Nat×Nat×List Nat // BIn 32768 (bd x.natAbs).reverse (bd y.natAbs).reverse i d (val 32768 ((bd x.natAbs).reverse.take i)*val 32768 (bd y.natAbs).reverse) g.1 g.2.1 g.2.2} (fun g=>[.one (.int .i64 g.1.2.1), .one (.int .i64 ((lb:Int)-1-g.1.1)), .rows (rB g.1.2.2.reverse)]) (fun g=>lb-g.1.1) ⟨(0,0,os),hO.inn (by omega)⟩ ⟨aG.Sub.same,aG.Sub.of_eq (congrArg (fun q=>aG.one (aI.int .i64 q)) (by show (lb:Int)-1=(lb:Int)-1-((0:Nat):Int);omega)),aG.Sub.same,trivial⟩ (fun _=>rfl) ?_;rintro ⟨⟨k,c,os2⟩,hI⟩;dsimp only [aA,aB] at hI ⊢;have hkl:=hI.le;have hol:=hI.len;have hc1:=hI.c1;rw [hrb] at hkl;rw [hra,hrb] at hol;refine vn eS rfl ?_;dsimp only [aA,aB];refine vs _ rfl (fun h13=>?_) (fun h13=>?_)
  ·refine vn (aE (by omega) (by omega)) rfl ?_;dsimp only [aA,aB];refine vn (aE (by omega) (by omega)) rfl ?_;dsimp only [aA,aB];obtain ⟨e,he1,he2,he3⟩:=On (n:=y.natAbs) (la:=lb) (i:=k) hlb.symm (by omega);obtain ⟨o,ho2⟩:∃ o,os2[i+k]? = some o:=⟨_,List.getElem?_eq_getElem (by omega)⟩
   have ho1:os2.reverse[la+lb-1-(i+k)]? = some o:=by
    have:=BH (ds:=os2.reverse) (i:=i+k) (by rw [List.length_reverse];omega);rw [List.reverse_reverse,List.length_reverse,hol] at this;rw [this];exact ho2
   have hoB:=hI.dg.get ho2;have hde:d*e≤32767*32767:=Nat.mul_le_mul (by omega) (by omega);have hst:∀ z,os2.reverse.set (la+lb-1-(i+k)) z=(os2.set (i+k) z).reverse:=fun z=>by rw [←hol];exact HO (by omega)
   obtain ⟨w,hw⟩:∃ w,c+(d*e+o)=w:=⟨_,rfl⟩
   have hN:=hI.next (z:=w%32768) (c':=w/32768) (by rw [hrb];omega) he2 ho2 (by omega) (by omega) (by omega);refine cV rfl rfl (by omega) (by rw [List.length_reverse];omega) ?_;refine qQ rfl rfl (by omega) (by omega) ho1 rfl ?_;dsimp only [aA,aB];refine vn (aY eI (by omega) (by omega) hd1) rfl ?_;dsimp only [aA,aB];refine vn (bH Ov) rfl ?_;dsimp only [aA,aB];refine vn (aY eI (by omega) (by omega) he1) rfl ?_;dsimp only [aA,aB];refine vn (bH Ov) rfl ?_;dsimp only [aA,aB];refine vn (sO (c:=((d*e:Nat):Int)) (by rw [←Int.natCast_mul];exact dN (by omega) (by omega))) rfl ?_;dsimp only [aA,aB];refine vn (aE (by omega) (by omega)) rfl ?_;dsimp only [aA,aB];refine vn (eA (c:=(w:Int)) (by rw [show (o:Int)+((d*e:Nat):Int)+(c:Int)=(w:Int) by omega];exact dN (by omega) (by omega))) rfl ?_;dsimp only [aA,aB];refine vn (aE (by omega) (by omega)) rfl ?_;dsimp only [aA,aB];refine vn (aE (by omega) (by omega)) rfl ?_;dsimp only [aA,aB];refine vn (gK (by omega) (by omega)) rfl ?_;dsimp only [aA,aB];refine cV rfl rfl (by omega) (by rw [List.length_reverse];omega) ?_;refine lY (d':=w%32768) rfl rfl (by omega) (by omega) ho1 rfl ?_;rw [hst];dsimp only [aA,aB];refine vn (iJ (by omega) (by omega) (by omega)) rfl ?_;dsimp only [aA,aB];refine vn (aJ (by omega) (by omega)) rfl ?_;dsimp only [aA,aB];exact aU rfl ⟨⟨(k+1,w/32768,os2.set (i+k) (w%32768)),hN⟩,⟨aG.Sub.same,aG.Sub.of_eq (congrArg (fun q=>aG.one (aI.int .i64 q)) (by show (lb:Int)-1-(k:Int)-1=(lb:Int)-1-((k+1:Nat):Int);omega)),aG.Sub.same,trivial⟩,by show lb-(k+1)<lb-k;omega⟩
  have hke:k=lb:=by omega
  subst hke;obtain ⟨o,ho2⟩:∃ o,os2[i+k]? = some o:=⟨_,List.getElem?_eq_getElem (by omega)⟩
  have ho1:os2.reverse[la+k-1-(i+k)]? = some o:=by
   have:=BH (ds:=os2.reverse) (i:=i+k) (by rw [List.length_reverse];omega);rw [List.reverse_reverse,List.length_reverse,hol] at this;rw [this];exact ho2
  have hst:∀ z,os2.reverse.set (la+k-1-(i+k)) z=(os2.set (i+k) z).reverse:=fun z=>by rw [←hol];exact HO (by omega)
  have hN:EJ 32768 (bd x.natAbs).reverse (bd y.natAbs).reverse (i+1) (os2.set (i+k) c):=by
   have:=hI;rw [←hrb] at this ⊢;exact this.out hd2
  refine cV rfl rfl (by omega) (by rw [List.length_reverse];omega) ?_;refine lY (d':=c) rfl rfl (by omega) (by omega) ho1 rfl ?_;rw [hst];dsimp only [aA,aB];refine vn (aJ (by omega) (by omega)) rfl ?_;dsimp only [aA,aB];exact aU rfl ⟨⟨(i+1,os2.set (i+k) c),hN⟩,⟨aG.Sub.of_eq (congrArg (fun q=>aG.one (aI.int .i64 q)) (by show (la:Int)-1-(i:Int)-1=(la:Int)-1-((i+1:Nat):Int);omega)),aG.Sub.same,trivial⟩,by show la-(i+1)<la-i;omega⟩
 have hie:i=la:=by omega
 subst hie
 have hf:val 32768 os=x.natAbs*y.natAbs:=by
  have:=hO;rw [←hra] at this;have:=this.fin;rw [val_rev,val_rev] at this;exact this
 have hol:=hO.len;rw [hra,hrb] at hol;have hmul:x.sign*y.sign=(x*y).sign:=(Int.sign_mul x y).symm;have hsb:=BN (x*y);refine vn (sO (c:=(x*y).sign) (by rw [hmul];exact dN (by omega) (by omega))) rfl ?_;dsimp only [aA,aB];refine aC (fG (x*y).sign (x*y) os.reverse hO.dg.rev (by rw [List.length_reverse];omega) (by rw [bv,List.reverse_reverse,hf,Int.natAbs_mul]) (fun _=>rfl)) rfl ?_;exact aL rfl
open Go Go.Proofs Tryz Ord
def ZY:Tr:=.back 0 [lV 10 0,lV 11 0]
def aG6:Tr:=.split (.u 5 0) (bB .mul 3 14 32768 3 0 3 (bB .sub 3 17 1 1 0 3 (bR .sub 3 18 19 7 0 4 0 3 (aP 263 [(W 0 0),(W 8 0)] [none] [16,20] [45,3] 3 true (bR .add 3 15 21 6 0 9 0 3 (bB .add 3 12 1 4 0 3 ZY)))))) (.ret [(W 3 0)])
def aT6:Tr:=.loop 0 [lK 0,lK 0] (bR .lss 3 9 10 4 0 2 0 4 aG6)
theorem UZ:aN prog f284 (fun _=>none) [.v none, .v none, .v none]=aT6:=by kernel_rfl
def au9:Tr:=.loop 0 [lV 14 0,lV 10 0] (aP 215 [(W 15 0),(W 1 0)] [none] [46,47] [45,45] 3 true (bB .geq 3 48 0 17 0 4 (.split (.u 18 0) (.need (.call 214 [(W 15 0),(W 1 0),(WK (-1))] [none]) (.call ⟨.value (.func 214),#[(tT 50),(tT 51),(.const (I3 (-1)))],#[45,45,3]⟩) 45 true (bB .add 3 53 1 16 0 3 (.back 0 [lV 19 0,lV 20 0]))) (.ret [(W 16 0),(W 15 0)]))))
def ag8:Tr:=.loop 0 [lV 0 0,lV 10 0] (aP 215 [(W 12 0),(W 1 0)] [none] [46,47] [45,45] 3 true (bB .geq 3 48 0 14 0 4 (.split (.u 15 0) (.need (.call 214 [(W 12 0),(W 1 0),(WK (-1))] [none]) (.call ⟨.value (.func 214),#[(tT 50),(tT 51),(.const (I3 (-1)))],#[45,45,3]⟩) 45 true (bB .add 3 53 1 13 0 3 (.back 0 [lV 16 0,lV 17 0]))) (.ret [(W 13 0),(W 12 0)]))))
def Uq:Tr:=bB .gtr 3 36 0 10 0 4 (.split (.u 11 0) (aP 139 [(W 10 0)] [(some 2)] [39] [2] 47 false (aP 135 [(G2 12),(.agg [(tE (.int .i64 1)),(U 1 0)])] [(some 2)] [40,42] [47,47] 47 true (.need (.call 214 [(W 0 0),(W 13 1),(WK (-1))] [none]) (.call ⟨.value (.func 214),#[(tT 38),(tT 44),(.const (I3 (-1)))],#[45,45,3]⟩) 45 true au9))) ag8)
def aQ3:Tr:=bB .leq 3 14 3 2 0 4 (.split (.u 5 0) (bB .add 3 17 1 2 0 3 (bB .add 3 19 1 2 0 3 (aP 284 [(W 0 0),(W 6 0),(W 7 0)] [none] [16,18,20] [45,3,3] 3 false (aP 284 [(W 1 0),(W 2 0),(W 2 0)] [none] [22,23,24] [45,3,3] 3 true (bR .quo 3 21 25 8 0 9 0 3 Uq))))) (bB .add 3 28 1 2 0 3 (.need (.call 284 [(W 0 0),(W 6 0),(WK 4)] [none]) (.call ⟨.value (.func 284),#[(tT 27),(tT 29),(.const (I3 4))],#[45,3,3]⟩) 3 false (.need (.call 284 [(W 1 0),(W 2 0),(WK 3)] [none]) (.call ⟨.value (.func 284),#[(tT 31),(tT 32),(.const (I3 3))],#[45,3,3]⟩) 3 false (bB .add 3 33 1 8 0 3 (bR .quo 3 30 34 7 0 9 0 3 Uq))))))
def ao4:Tr:=.loop 0 [lV 8 0,lK 0] (aP 215 [(W 9 0),(W 1 0)] [none] [46,47] [45,45] 3 true (bB .geq 3 48 0 11 0 4 (.split (.u 12 0) (.need (.call 214 [(W 9 0),(W 1 0),(WK (-1))] [none]) (.call ⟨.value (.func 214),#[(tT 50),(tT 51),(.const (I3 (-1)))],#[45,45,3]⟩) 45 true (bB .add 3 53 1 10 0 3 (.back 0 [lV 13 0,lV 14 0]))) (.ret [(W 10 0),(W 9 0)]))))
def ai6:Tr:=.split (.u 5 0) (aP 139 [(WK 0)] [(some 2)] [39] [2] 47 false (aP 135 [(G2 6),(.agg [(tE (.int .i64 1)),(U 1 0)])] [(some 2)] [40,42] [47,47] 47 true (.need (.call 214 [(W 0 0),(W 7 1),(WK (-1))] [none]) (.call ⟨.value (.func 214),#[(tT 38),(tT 44),(.const (I3 (-1)))],#[45,45,3]⟩) 45 true ao4))) (.loop 0 [lV 0 0,lK 0] (aP 215 [(W 6 0),(W 1 0)] [none] [46,47] [45,45] 3 true (bB .geq 3 48 0 8 0 4 (.split (.u 9 0) (.need (.call 214 [(W 6 0),(W 1 0),(WK (-1))] [none]) (.call ⟨.value (.func 214),#[(tT 50),(tT 51),(.const (I3 (-1)))],#[45,45,3]⟩) 45 true (bB .add 3 53 1 7 0 3 ZY)) (.ret [(W 7 0),(W 6 0)])))))
def aU3:Tr:=cY 1 0 8 45 (cY 0 0 10 45 (bR .geq 3 11 12 3 0 2 0 4 (.split (.u 4 0) aQ3 (.need (.prim [(WK 0),(WK 0)] none) (.binOp .gtr 3 (tT 36) (.const (I3 0)) 3) 4 false ai6))))
theorem RF:aN prog f261 (fun _=>none) [.v none, .v none]=aU3:=by kernel_rfl
def ao7:Tr:=.need (.app 1 8 (some 17) none (some 20)) (.call ⟨.builtin .append,#[(tT 33),(tT 38)],#[45,45]⟩) 45 false (aP 260 [(.one (.c (.sr 1 21)))] [none] [39] [45] 45 true (aP 261 [(W 22 0),(W 1 0)] [none,none] [42,43] [45,45] 311 false (.need (.lit 1 [[(.u 23 0)]]) (.buildSlice 45 1 #[(0,(tT 48))]) 45 false (.need (.app 1 8 (some 14) none (some 25)) (.call ⟨.builtin .append,#[(tT 47),(tT 49)],#[45,45]⟩) 45 false (bB .add 3 30 1 13 0 3 (.back 0 [lV 24 0,lV 27 0, .row 26]))))))
def ag6:Tr:=cY 0 0 27 45 (bR .lss 3 26 28 13 0 15 0 4 (.split (.u 16 0) (.need (.app 1 8 none (some (.u 12 0)) none) (.call ⟨.builtin .append,#[(.const (.slice none 0 0)),(tT 32)],#[45,45]⟩) 45 false (gE 0 0 13 0 45 34 35 (eY 18 0 none 3 36 (.need (.lit 1 [[(.u 19 0)]]) (.buildSlice 45 1 #[(0,(tT 37))]) 45 false ao7)))) (aP 260 [(.one (.c (.sr 1 14)))] [none] [51] [45] 45 false (.ret [(W 17 0),(W 12 0)]))))
def aN1:Tr:=bB .sub 3 18 1 5 0 3 (.need (.prim [(W 0 0),(W 6 0)] none) (.slice 45 (tT 16) none (some (tT 19)) none) 45 false (.need (.app 1 8 none (some (.u 7 0)) none) (.call ⟨.builtin .append,#[(.const (.slice none 0 0)),(tT 20)],#[45,45]⟩) 45 false (aP 260 [(.one (.c (.sr 1 8)))] [none] [21] [45] 45 true (cY 1 0 23 45 (bB .sub 3 24 1 10 0 3 (.loop 0 [lV 9 0,lV 11 0, .nilrow] ag6))))))
def aK8:Tr:=cY 0 0 10 45 (cY 1 0 12 45 (bR .lss 3 11 13 2 0 3 0 4 (.split (.u 4 0) (.ret [(.one (.c (.k (.slice none 0 0)))),(W 0 0)]) (cY 1 0 17 45 aN1))))
theorem YD:aN prog f213 (fun _=>none) [.v none, .v none]=aK8:=by kernel_rfl
def aF8:Tr:=.split (.u 4 0) (bB .mul 3 11 32768 1 0 3 (gE 0 0 2 0 45 13 14 (eY 6 0 none 3 15 (bR .add 3 12 16 5 0 7 0 3 (bB .add 3 9 1 2 0 3 (.back 0 [lV 8 0,lV 9 0])))))) LU
def aL9:Tr:=.loop 0 [lK 0,lK 0] (cY 0 0 6 45 (bR .lss 3 5 7 2 0 3 0 4 aF8))
theorem Qs:aN prog f257 (fun _=>none) [.v none]=aL9:=by kernel_rfl
def as9:Tr:=aP 257 [(W 2 0)] [none] [26] [45] 3 false (aP 257 [(W 3 0)] [none] [28] [45] 3 true (.loop 1 [lV 12 0,lV 13 0] (bB .neq 3 30 0 15 0 4 (.split (.u 16 0) (bR .rem 3 33 34 14 0 15 0 3 (.back 1 [lV 15 0,lV 17 0])) (aP 139 [(W 14 0)] [(some 2)] [36] [2] 47 true (.ret [(G2 17)]))))))
def aR8:Tr:=bB .leq 3 19 4 8 0 4 (.split (.u 9 0) (cY 3 0 22 45 (bB .leq 3 23 4 10 0 4 (.split (.u 11 0) as9 (aP 213 [(W 2 0),(W 3 0)] [none,none] [39,40] [45,45] 269 false (.back 0 [lV 3 0,lV 13 0,lV 4 0,lV 5 0]))))) (aP 213 [(W 2 0),(W 3 0)] [none,none] [39,40] [45,45] 269 false (.back 0 [lV 3 0,lV 11 0,lV 4 0,lV 5 0])))
def aE1:Tr:=.loop 0 [lV 0 1,lV 1 1,lK 0,lN] (cY 3 0 15 45 (bB .gtr 3 16 0 6 0 4 (.split (.u 7 0) (cY 2 0 18 45 aR8) (.need (.call 211 [(WK 1),(W 2 0)] [(some 2)]) (.call ⟨.value (.func 211),#[(.const (I3 1)),(tT 46)],#[3,45]⟩) 47 true LG))))
theorem WH:aN prog f212 (fun _=>none) [.v (some 2), .v (some 2)]=aE1:=by kernel_rfl
theorem KJ {m long i:Nat} (h:i<long):m/32768^(long-i)*32768+m/32768^(long-1-i)%32768=m/32768^(long-(i+1)):=by
 have e:m/32768^(long-i)=m/32768^(long-(i+1))/32768:=by
  rw [Nat.div_div_eq_div_mul,←Nat.pow_succ];congr 2;omega
 rw [e,show long-1-i=long-(i+1) by omega];have:=Nat.div_add_mod (m/32768^(long-(i+1))) 32768;omega
theorem xB {m long i:Nat} (h:i≤long) (hm:m<32768^long):m/32768^(long-i)<32768^i:=by
 rw [Nat.div_lt_iff_lt_mul (Nat.pow_pos (by omega)),←Nat.pow_add,show i+(long-i)=long by omega];exact hm
theorem Mm {i:Nat} (h:i≤4):32768^i≤1152921504606846976:=by
 have:=Nat.pow_le_pow_right (n:=32768) (by omega) h;rw [show (32768:Nat)^4=1152921504606846976 by decide] at this;exact this
theorem xV (m long k:Nat) (hm:m<32768^long) (hk:k≤long) (hk4:k≤4) (hl:long<1099511627776) (hs:(bd m).length<1099511627776):aK prog 284 [(.one (bT m):aG),(.one (.int .i64 long):aG),(.one (.int .i64 k):aG)] (.ret [.one (.int .i64 ((m/32768^(long-k):Nat):Int))]):=by
 refine aD (args:=[.v none, .v none, .v none]) (ins:=[.v (.one (bT m)), .v (.one (.int .i64 long)), .v (.one (.int .i64 k))]) (hints:=(fun _=>none)) fo (by kernel_rfl) func284 ⟨rfl,rfl,rfl,trivial⟩ ?_;rw [UZ];dsimp only [List.map,In.env,aA,aB];refine bF {i:Nat // i≤k} (fun g=>[.one (.int .i64 ((m/32768^(long-g.1):Nat):Int)), .one (.int .i64 g.1)]) (fun g=>k-g.1) ⟨0,Nat.zero_le _⟩ ⟨aG.Sub.of_eq (congrArg (fun q:Nat=>aG.one (aI.int .i64 (q:Int))) (by show 0=m/32768^long;rw [Nat.div_eq_of_lt hm])),aG.Sub.same,trivial⟩ (fun _=>rfl) ?_;rintro ⟨i,hi⟩;dsimp only [aA,aB] at hi ⊢;refine vn bE rfl ?_;dsimp only [aA,aB];refine vs _ rfl (fun h2=>?_) (fun h2=>?_)
 ·have hx:=xB (m:=m) (i:=i) (long:=long) (by omega) hm;have hp:=Mm (i:=i) (by omega);have hstep:=KJ (m:=m) (long:=long) (i:=i) (by omega);have hlt:=xB (m:=m) (i:=i+1) (long:=long) (by omega) hm;have hp2:=Mm (i:=i+1) (by omega);generalize m/32768^(long-i)=x at *;generalize hy:m/32768^(long-(i+1))=y at *;refine vn (qW (by omega) (by omega)) rfl ?_;dsimp only [aA,aB];refine vn (aJ (by omega) (by omega)) rfl ?_;dsimp only [aA,aB];refine vn (oZ (c:=((long-1-i:Nat):Int)) (by rw [show ((long:Int)-1-(i:Int))=((long-1-i:Nat):Int) by omega];exact dN (by omega) (by omega))) rfl ?_;dsimp only [aA,aB];refine aC (Ce m (long-1-i) (by omega) hs) rfl ?_;generalize m/32768^(long-1-i)%32768=d at *;dsimp only [aA,aB];refine vn (eA (c:=(y:Int)) (by rw [show (x:Int)*32768+(d:Int)=(y:Int) by omega];exact dN (by omega) (by omega))) rfl ?_;dsimp only [aA,aB];refine vn (aE (by omega) (by omega)) rfl ?_;dsimp only [aA,aB];exact aU rfl ⟨⟨i+1,by omega⟩,⟨aG.Sub.of_eq (congrArg (fun q:Nat=>aG.one (aI.int .i64 (q:Int))) hy.symm),aG.Sub.same,trivial⟩,by show k-(i+1)<k-i;omega⟩
 rw [show k=i by omega];exact aL rfl
theorem LQ {d:Nat} (h:0<d):zT (d:Int) = .agg [.int .i64 1,bT d]:=by
 rw [zT,zC,Int.sign_eq_one_of_pos (by omega)];rfl
theorem TQ {r d m:Nat}:r/32768^m/(d/32768^m+1)*d≤r:=by
 have hp:0<32768^m:=Nat.pow_pos (by omega)
 have h1:d≤(d/32768^m+1)*32768^m:=by
  rw [Nat.mul_comm];exact Nat.le_of_lt (Nat.lt_mul_div_succ d hp)
 calc r/32768^m/(d/32768^m+1)*d≤r/32768^m/(d/32768^m+1)*((d/32768^m+1)*32768^m):=Nat.mul_le_mul_left _ h1
  _=r/32768^m/(d/32768^m+1)*(d/32768^m+1)*32768^m:=(Nat.mul_assoc _ _ _).symm
  _≤r/32768^m*32768^m:=Nat.mul_le_mul_right _ (Nat.div_mul_le_self _ _)
  _≤r:=Nat.div_mul_le_self _ _
set_option maxHeartbeats 2000000 in
theorem UF (r d:Nat) (hd:0<d) (hr:r<d*32768) (hs:(bd d).length<34359738368):aK prog 261 [(.one (bT r):aG),(.one (bT d):aG)] (.ret [.one (.int .i64 ((r/d:Nat):Int)), .one (bT (r%d))]):=by
 refine aD (args:=[.v none, .v none]) (ins:=[.v (.one (bT r)), .v (.one (bT d))]) (hints:=(fun _=>none)) fo (by kernel_rfl) func261 ⟨rfl,rfl,trivial⟩ ?_;rw [RF];dsimp only [List.map,In.env,aA,aB];have hdl:=Cz d
 have hrl:r<32768^((bd d).length+1):=by
  rw [Nat.pow_succ];exact Nat.lt_trans hr (Nat.mul_lt_mul_of_pos_right hdl (by omega))
 have hrs:=jO hrl;have hle:∀ q,q≤r→(bd q).length≤(bd d).length+1:=fun q hq=>Nat.le_trans (fC hq) hrs
 have hdn:0<(bd d).length:=by
  rcases Nat.eq_zero_or_pos (bd d).length with h | h
  ·have:=Hh.1 (List.eq_nil_of_length_eq_zero h);omega
  ·exact h
 have hqB:r/d<32768:=by rw [Nat.div_lt_iff_lt_mul hd,Nat.mul_comm];exact hr
 have hkd:∀ k,k*d≤r→k<32768:=fun k hk=>by
  have:k≤r/d:=by rw [Nat.le_div_iff_mul_le hd];exact hk
  omega
 have hfin:∀ r' k,r'+k*d=r→r'<d→k=r/d∧r'=r%d:=fun r' k h1 h2=>Ak (by rw [←h1,Nat.mul_comm]) h2
 have hah:∀ r':Nat,(0≤eE (r':Int) (d:Int))↔d≤r':=fun r'=>by
  have:=sH (a:=(r':Int)) (b:=(d:Int));omega
 refine vn (aQ eI (List.length_map _)) rfl ?_;dsimp only [aA,aB];refine vn (aQ eI (List.length_map _)) rfl ?_;dsimp only [aA,aB];refine vn eS rfl ?_;dsimp only [aA,aB];refine vs _ rfl (fun h3=>?_) (fun h3=>?_)
 ·refine vn gW rfl ?_;dsimp only [aA,aB];refine vs _ rfl (fun h5=>?_) (fun h5=>?_)
  ·refine vn (aE (by omega) (by omega)) rfl ?_;dsimp only [aA,aB];refine vn (aE (by omega) (by omega)) rfl ?_;dsimp only [aA,aB];refine aC (xV r ((bd d).length+1) ((bd d).length+1) hrl (Nat.le_refl _) (by omega) (by omega) (by omega)) rfl ?_;rw [Nat.sub_self,Nat.pow_zero,Nat.div_one];dsimp only [aA,aB];refine aC (xV d (bd d).length (bd d).length hdl (Nat.le_refl _) (by omega) (by omega) (by omega)) rfl ?_;rw [Nat.sub_self,Nat.pow_zero,Nat.div_one];dsimp only [aA,aB];obtain ⟨k,hk⟩:∃ k,r/d=k:=⟨_,rfl⟩
   have hk1:k*d≤r:=by rw [←hk];exact Nat.div_mul_le_self _ _
   have hk2:=hkd k hk1;refine vn (qU (c:=(k:Int)) (by omega) (by rw [Int.tdiv_eq_ediv_of_nonneg (pA _),←Int.natCast_ediv,hk];exact dN (by omega) (by omega))) rfl ?_;dsimp only [aA,aB];refine vn eF rfl ?_;dsimp only [aA,aB];refine vs _ rfl (fun h12=>?_) (fun h12=>?_)
   ·have hm:=jA (k:Int) (d:Int) (by
     rw [Int.natAbs_natCast,Int.natAbs_natCast];have:(bd k).length≤1:=jO (by omega);omega)
    rw [LQ hd,show (k:Int)*(d:Int)=((k*d:Nat):Int) by rw [Int.natCast_mul]] at hm;refine aC (oP k (by omega) (by omega)) rfl ?_;dsimp only [aA,aB];refine aC hm rfl ?_;dsimp only [aA,aB];refine aC (jQ r (k*d) (r-k*d) (-1) (.inr rfl) (by omega) (by omega) (by have:=hle _ hk1;omega)) rfl ?_;dsimp only [aA,aB];refine bF {g:Nat×Nat // g.1+g.2*d=r} (fun g=>[.one (bT g.1.1), .one (.int .i64 g.1.2)]) (fun g=>g.1.1) ⟨(r-k*d,k),by show r-k*d+k*d=r;omega⟩ aO.rfl (fun _=>rfl) ?_;rintro ⟨⟨r',k'⟩,hg⟩;dsimp only [aA,aB] at hg ⊢;have hk3:=hkd k' (by omega);have hr3:=hle r' (by omega);refine aC (qK r' d (by omega)) rfl ?_;dsimp only [aA,aB];refine vn eS rfl ?_;dsimp only [aA,aB];refine vs _ rfl (fun h19=>?_) (fun h19=>?_)
    ·have hdr:d≤r':=(hah r').1 (by assumption);refine aC (jQ r' d (r'-d) (-1) (.inr rfl) (by omega) (by omega) (by omega)) rfl ?_;dsimp only [aA,aB];refine vn (aE (by omega) (by omega)) rfl ?_;dsimp only [aA,aB];exact aU rfl ⟨⟨(r'-d,k'+1),by show r'-d+(k'+1)*d=r;rw [Nat.add_mul];omega⟩,aO.rfl,by show r'-d<r';omega⟩
    have hdr:r'<d:=by
     rcases Nat.lt_or_ge r' d with h | h
     ·exact h
     ·exact absurd ((hah r').2 h) (by assumption)
    obtain ⟨e1,e2⟩:=hfin r' k' hg hdr;rw [←e1,←e2];exact aL rfl
   refine bF {g:Nat×Nat // g.1+g.2*d=r} (fun g=>[.one (bT g.1.1), .one (.int .i64 g.1.2)]) (fun g=>g.1.1) ⟨(r,0),by omega⟩ ⟨aG.Sub.same,aG.Sub.of_eq (congrArg (fun q:Nat=>aG.one (aI.int .i64 (q:Int))) (by show k=0;omega)),trivial⟩ (fun _=>rfl) ?_;rintro ⟨⟨r',k'⟩,hg⟩;dsimp only [aA,aB] at hg ⊢;have hk3:=hkd k' (by omega);have hr3:=hle r' (by omega);refine aC (qK r' d (by omega)) rfl ?_;dsimp only [aA,aB];refine vn eS rfl ?_;dsimp only [aA,aB];refine vs _ rfl (fun h27=>?_) (fun h27=>?_)
   ·have hdr:d≤r':=(hah r').1 (by assumption);refine aC (jQ r' d (r'-d) (-1) (.inr rfl) (by omega) (by omega) (by omega)) rfl ?_;dsimp only [aA,aB];refine vn (aE (by omega) (by omega)) rfl ?_;dsimp only [aA,aB];exact aU rfl ⟨⟨(r'-d,k'+1),by show r'-d+(k'+1)*d=r;rw [Nat.add_mul];omega⟩,aO.rfl,by show r'-d<r';omega⟩
   have hdr:r'<d:=by
    rcases Nat.lt_or_ge r' d with h | h
    ·exact h
    ·exact absurd ((hah r').2 h) (by assumption)
   obtain ⟨e1,e2⟩:=hfin r' k' hg hdr;rw [←e1,←e2];exact aL rfl
  refine vn (aE (by omega) (by omega)) rfl ?_;dsimp only [aA,aB];refine aC (xV r ((bd d).length+1) 4 hrl (by omega) (by omega) (by omega) (by omega)) rfl ?_;dsimp only [aA,aB];refine aC (xV d (bd d).length 3 hdl (by omega) (by omega) (by omega) (by omega)) rfl ?_;rw [show (bd d).length+1-4=(bd d).length-3 by omega];have hd3:=xB (m:=d) (long:=(bd d).length) (i:=3) (by omega) hdl;have hr4:=xB (m:=r) (long:=(bd d).length+1) (i:=4) (by omega) hrl;rw [show (bd d).length+1-4=(bd d).length-3 by omega] at hr4;have hp3:=Mm (i:=3) (by omega);have hp4:=Mm (i:=4) (by omega);have hk1:=TQ (r:=r) (d:=d) (m:=(bd d).length-3);generalize r/32768^((bd d).length-3)=rt at *;generalize d/32768^((bd d).length-3)=dt at *;obtain ⟨k,hk⟩:∃ k,rt/(dt+1)=k:=⟨_,rfl⟩
  rw [hk] at hk1;have hk2:=hkd k hk1;dsimp only [aA,aB];refine vn (aE (by omega) (by omega)) rfl ?_;dsimp only [aA,aB];refine vn (qU (c:=(k:Int)) (by omega) (by rw [Int.tdiv_eq_ediv_of_nonneg (pA _),show ((dt:Int)+1)=((dt+1:Nat):Int) by omega,←Int.natCast_ediv,hk];exact dN (by omega) (by omega))) rfl ?_;dsimp only [aA,aB];refine vn eF rfl ?_;dsimp only [aA,aB];refine vs _ rfl (fun h38=>?_) (fun h38=>?_)
  ·have hm:=jA (k:Int) (d:Int) (by
    rw [Int.natAbs_natCast,Int.natAbs_natCast];have:(bd k).length≤1:=jO (by omega);omega)
   rw [LQ hd,show (k:Int)*(d:Int)=((k*d:Nat):Int) by rw [Int.natCast_mul]] at hm;refine aC (oP k (by omega) (by omega)) rfl ?_;dsimp only [aA,aB];refine aC hm rfl ?_;dsimp only [aA,aB];refine aC (jQ r (k*d) (r-k*d) (-1) (.inr rfl) (by omega) (by omega) (by have:=hle _ hk1;omega)) rfl ?_;dsimp only [aA,aB];refine bF {g:Nat×Nat // g.1+g.2*d=r} (fun g=>[.one (bT g.1.1), .one (.int .i64 g.1.2)]) (fun g=>g.1.1) ⟨(r-k*d,k),by show r-k*d+k*d=r;omega⟩ aO.rfl (fun _=>rfl) ?_;rintro ⟨⟨r',k'⟩,hg⟩;dsimp only [aA,aB] at hg ⊢;have hk3:=hkd k' (by omega);have hr3:=hle r' (by omega);refine aC (qK r' d (by omega)) rfl ?_;dsimp only [aA,aB];refine vn eS rfl ?_;dsimp only [aA,aB];refine vs _ rfl (fun h45=>?_) (fun h45=>?_)
   ·have hdr:d≤r':=(hah r').1 (by assumption);refine aC (jQ r' d (r'-d) (-1) (.inr rfl) (by omega) (by omega) (by omega)) rfl ?_;dsimp only [aA,aB];refine vn (aE (by omega) (by omega)) rfl ?_;dsimp only [aA,aB];exact aU rfl ⟨⟨(r'-d,k'+1),by show r'-d+(k'+1)*d=r;rw [Nat.add_mul];omega⟩,aO.rfl,by show r'-d<r';omega⟩
   have hdr:r'<d:=by
    rcases Nat.lt_or_ge r' d with h | h
    ·exact h
    ·exact absurd ((hah r').2 h) (by assumption)
   obtain ⟨e1,e2⟩:=hfin r' k' hg hdr;rw [←e1,←e2];exact aL rfl
  refine bF {g:Nat×Nat // g.1+g.2*d=r} (fun g=>[.one (bT g.1.1), .one (.int .i64 g.1.2)]) (fun g=>g.1.1) ⟨(r,0),by omega⟩ ⟨aG.Sub.same,aG.Sub.of_eq (congrArg (fun q:Nat=>aG.one (aI.int .i64 (q:Int))) (by show k=0;omega)),trivial⟩ (fun _=>rfl) ?_;rintro ⟨⟨r',k'⟩,hg⟩;dsimp only [aA,aB] at hg ⊢;have hk3:=hkd k' (by omega);have hr3:=hle r' (by omega);refine aC (qK r' d (by omega)) rfl ?_;dsimp only [aA,aB];refine vn eS rfl ?_;dsimp only [aA,aB];refine vs _ rfl (fun h53=>?_) (fun h53=>?_)
  ·have hdr:d≤r':=(hah r').1 (by assumption);refine aC (jQ r' d (r'-d) (-1) (.inr rfl) (by omega) (by omega) (by omega)) rfl ?_;dsimp only [aA,aB];refine vn (aE (by omega) (by omega)) rfl ?_;dsimp only [aA,aB];exact aU rfl ⟨⟨(r'-d,k'+1),by show r'-d+(k'+1)*d=r;rw [Nat.add_mul];omega⟩,aO.rfl,by show r'-d<r';omega⟩
  have hdr:r'<d:=by
   rcases Nat.lt_or_ge r' d with h | h
   ·exact h
   ·exact absurd ((hah r').2 h) (by assumption)
  obtain ⟨e1,e2⟩:=hfin r' k' hg hdr;rw [←e1,←e2];exact aL rfl
 refine vn eF rfl ?_;dsimp only [aA,aB];refine vs _ rfl (fun h59=>?_) (fun h59=>?_)
 ·exfalso;omega
 refine bF {g:Nat×Nat // g.1+g.2*d=r} (fun g=>[.one (bT g.1.1), .one (.int .i64 g.1.2)]) (fun g=>g.1.1) ⟨(r,0),by omega⟩ aO.rfl (fun _=>rfl) ?_;rintro ⟨⟨r',k'⟩,hg⟩;dsimp only [aA,aB] at hg ⊢;have hk3:=hkd k' (by omega);have hr3:=hle r' (by omega);refine aC (qK r' d (by omega)) rfl ?_;dsimp only [aA,aB];refine vn eS rfl ?_;dsimp only [aA,aB];refine vs _ rfl (fun h74=>?_) (fun h74=>?_)
 ·have hdr:d≤r':=(hah r').1 (by assumption);refine aC (jQ r' d (r'-d) (-1) (.inr rfl) (by omega) (by omega) (by omega)) rfl ?_;dsimp only [aA,aB];refine vn (aE (by omega) (by omega)) rfl ?_;dsimp only [aA,aB];exact aU rfl ⟨⟨(r'-d,k'+1),by show r'-d+(k'+1)*d=r;rw [Nat.add_mul];omega⟩,aO.rfl,by show r'-d<r';omega⟩
 have hdr:r'<d:=by
  rcases Nat.lt_or_ge r' d with h | h
  ·exact h
  ·exact absurd ((hah r').2 h) (by assumption)
 obtain ⟨e1,e2⟩:=hfin r' k' hg hdr;rw [←e1,←e2];exact aL rfl
set_option maxHeartbeats 1000000 in
theorem jS (a d:Nat) (hd:0<d) (hs:(bd a).length+(bd d).length<34359738368):aK prog 213 [(.one (bT a):aG),(.one (bT d):aG)] (.ret [.one (bT (a/d)), .one (bT (a%d))]):=by
 refine aD (args:=[.v none, .v none]) (ins:=[.v (.one (bT a)), .v (.one (bT d))]) (hints:=(fun _=>none)) fo (by kernel_rfl) func213 ⟨rfl,rfl,trivial⟩ ?_;rw [YD];dsimp only [List.map,In.env,aA,aB]
 have hdn:0<(bd d).length:=by
  rcases Nat.eq_zero_or_pos (bd d).length with h | h
  ·have:=Hh.1 (List.eq_nil_of_length_eq_zero h);omega
  ·exact h
 refine vn (aQ eI (List.length_map _)) rfl ?_;dsimp only [aA,aB];refine vn (aQ eI (List.length_map _)) rfl ?_;dsimp only [aA,aB];refine vn bE rfl ?_;dsimp only [aA,aB];refine vs _ rfl (fun h3=>?_) (fun h3=>?_)
 ·have had:=vT (a:=a) (b:=d) (by omega);refine eN ⟨Vn (Nat.div_eq_of_lt had),?_,trivial⟩;rw [Nat.mod_eq_of_lt had];exact aI.Sub.same
 refine vn (aQ eI (List.length_map _)) rfl ?_;dsimp only [aA,aB];refine vn (aJ (by omega) (by omega)) rfl ?_;dsimp only [aA,aB];refine vn (YL (m:=(bd d).length-1) (by omega) (by omega) (by omega)) rfl ?_;dsimp only [aA,aB];refine vA (ts:=[]) (us:=rB ((bd a).take ((bd d).length-1))) (vs:=rB ((bd a).take ((bd d).length-1))) rfl (.inr aI.Sub.same) rfl (by simp;omega) (by simp [maxLen];omega) ?_;dsimp only [aA,aB];refine aC (tG ((bd a).take ((bd d).length-1)) ((gN a).take _) (by rw [List.length_take];omega)) rfl ?_;dsimp only [aA,aB];refine vn (aQ eI (List.length_map _)) rfl ?_;dsimp only [aA,aB];refine vn (aJ (by omega) (by omega)) rfl ?_;dsimp only [aA,aB]
 refine bF {g:Nat×Nat×List Nat // (bd d).length-1≤g.1∧g.1≤(bd a).length∧bv ((bd a).take g.1)=g.2.1+d*bv g.2.2∧g.2.1<d∧DB 32768 g.2.2∧g.2.2.length≤g.1} (fun g=>[.one (bT g.1.2.1), .one (.int .i64 g.1.1), .rows (rB g.1.2.2)]) (fun g=>(bd a).length-g.1.1) ⟨((bd d).length-1,bv ((bd a).take ((bd d).length-1)),[]),Nat.le_refl _,by show (bd d).length-1≤_;omega,by simp [bv,val],by
  have h1:=KC ((gN a).take ((bd d).length-1));rw [List.length_take,Nat.min_eq_left (by omega)] at h1;exact Nat.lt_of_lt_of_le h1 (aR5 (by omega)),Rv,Nat.zero_le _⟩ ⟨aG.Sub.same,aG.Sub.of_eq (congrArg (fun q=>aG.one (aI.int .i64 q)) (by show ((bd d).length:Int)-1=(((bd d).length-1:Nat):Int);omega)),aG.Sub.same,trivial⟩ (fun _=>rfl) ?_
 rintro ⟨⟨i,R,qs⟩,hi1,hi2,hv,hR,hq,hql⟩;dsimp only [aA,aB] at hi1 hi2 hv hR hq hql ⊢;have hRl:=fC (Nat.le_of_lt hR);refine vn (aQ eI (List.length_map _)) rfl ?_;dsimp only [aA,aB];refine vn bE rfl ?_;dsimp only [aA,aB];refine vs _ rfl (fun h15=>?_) (fun h15=>?_)
 ·obtain ⟨x,hx⟩:∃ x,(bd a)[i]? = some x:=⟨_,List.getElem?_eq_getElem (by omega)⟩
  have hxB:=(gN a).get hx;refine vA (ts:=[]) (us:=rB (bd R)) (vs:=rB (bd R)) rfl (.inr aI.Sub.same) rfl (by simp;omega) (by simp [maxLen];omega) ?_;dsimp only [aA,aB];refine vn (aY eI (by omega) (by omega) hx) rfl ?_;dsimp only [aA,aB];refine vn (bH Ov) rfl ?_;dsimp only [aA,aB];refine dC (us:=rB [x]) rfl ?_;dsimp only [aA,aB];refine vA (ts:=rB (bd R)) (us:=rB [x]) (vs:=rB (bd R ++ [x])) rfl rfl (by rw [rB,rB,rB,←List.map_append]) (by simp;omega) (by simp [maxLen];omega) ?_;dsimp only [aA,aB];have hdb:DB 32768 (bd R ++ [x]):=(gN R).append (fun y hy=>by simp at hy;omega);refine aC (tG (bd R ++ [x]) hdb (by simp;omega)) rfl ?_;rw [BQ,eW];dsimp only [aA,aB]
  refine aC (UF (R*32768+x) d hd (by
   have:(R+1)*32768≤d*32768:=Nat.mul_le_mul_right _ hR;omega) (by omega)) rfl ?_
  have hmd:=Nat.mod_add_div (R*32768+x) d
  have hqB:(R*32768+x)/d<32768:=by
   rw [Nat.div_lt_iff_lt_mul hd,Nat.mul_comm];have:(R+1)*32768≤d*32768:=Nat.mul_le_mul_right _ hR;omega
  have hRm:=Nat.mod_lt (R*32768+x) hd;generalize (R*32768+x)/d=k at *;generalize (R*32768+x)%d=R' at *;dsimp only [aA,aB];refine dC (us:=rB [k]) rfl ?_;dsimp only [aA,aB];refine vA (ts:=rB qs) (us:=rB [k]) (vs:=rB (qs ++ [k])) rfl rfl (by rw [rB,rB,rB,←List.map_append]) (by simp;omega) (by simp [maxLen];omega) ?_;dsimp only [aA,aB];refine vn (aE (by omega) (by omega)) rfl ?_;dsimp only [aA,aB]
  exact aU rfl ⟨⟨(i+1,R',qs ++ [k]),by show _≤i+1;omega,by show i+1≤_;omega,by
   show bv ((bd a).take (i+1))=R'+d*bv (qs ++ [k]);rw [take_succ hx,BQ,BQ,hv,Nat.mul_add,Nat.add_mul,←Nat.mul_assoc];omega,hRm,hq.append (fun y hy=>by simp at hy;omega),by show (qs ++ [k]).length≤i+1;simp;omega⟩,aO.rfl,by show (bd a).length-(i+1)<(bd a).length-i;omega⟩
 have hie:i=(bd a).length:=by omega
 subst hie;rw [List.take_length,eW] at hv;obtain ⟨e1,e2⟩:=Ak hv hR;refine aC (tG qs hq (by omega)) rfl ?_;dsimp only [aA,aB];rw [←e1,←e2];exact aL rfl
theorem IL (m:Nat) (hm:(bd m).length≤4):aK prog 257 [(.one (bT m):aG)] (.ret [.one (.int .i64 m)]):=by
 refine aD (args:=[.v none]) (ins:=[.v (.one (bT m))]) (hints:=(fun _=>none)) fo (by kernel_rfl) func257 ⟨rfl,trivial⟩ ?_;rw [Qs];dsimp only [List.map,In.env,aA,aB];refine bF {i:Nat // i≤(bd m).length} (fun g=>[.one (.int .i64 (bv ((bd m).take g.1):Nat)), .one (.int .i64 g.1)]) (fun g=>(bd m).length-g.1) ⟨0,Nat.zero_le _⟩ aO.rfl (fun _=>rfl) ?_;rintro ⟨i,hi⟩;dsimp only [aA,aB] at hi ⊢;refine vn (aQ eI (List.length_map _)) rfl ?_;dsimp only [aA,aB];refine vn bE rfl ?_;dsimp only [aA,aB];refine vs _ rfl (fun h3=>?_) (fun h3=>?_)
 ·obtain ⟨x,hx⟩:∃ x,(bd m)[i]? = some x:=⟨_,List.getElem?_eq_getElem (by omega)⟩
  have hxB:=(gN m).get hx;have hb:=KC ((gN m).take i);rw [List.length_take,Nat.min_eq_left hi] at hb;have hp:=Mm (i:=i) (by omega);have hb2:=KC ((gN m).take (i+1));rw [List.length_take,Nat.min_eq_left (by omega)] at hb2;have hp2:=Mm (i:=i+1) (by omega);have hsn:bv ((bd m).take (i+1))=bv ((bd m).take i)*32768+x:=by rw [take_succ hx,BQ]
  generalize bv ((bd m).take i)=y at *;refine vn (qW (by omega) (by omega)) rfl ?_;dsimp only [aA,aB];refine vn (aY eI (by omega) (by omega) hx) rfl ?_;dsimp only [aA,aB];refine vn (bH Ov) rfl ?_;dsimp only [aA,aB];refine vn (aE (by omega) (by omega)) rfl ?_;dsimp only [aA,aB];refine vn (aE (by omega) (by omega)) rfl ?_;dsimp only [aA,aB];exact aU rfl ⟨⟨i+1,by omega⟩,⟨aG.Sub.of_eq (congrArg (fun q:Int=>aG.one (aI.int .i64 q)) (by show (y:Int)*32768+x=((bv ((bd m).take (i+1)):Nat):Int);omega)),aG.Sub.same,trivial⟩,by show (bd m).length-(i+1)<(bd m).length-i;omega⟩
 rw [show i=(bd m).length by omega,List.take_length,eW];exact aL rfl
set_option maxHeartbeats 1000000 in
theorem MQ (x y:Int) (hs:(bd x.natAbs).length<17179869184) (hs2:(bd y.natAbs).length<17179869184):aK prog 212 [(zT x:aG),(zT y:aG)] (.ret [zT ((Nat.gcd x.natAbs y.natAbs:Nat):Int)]):=by
 refine aD (args:=[.v (some 2), .v (some 2)]) (ins:=[.v (zT x), .v (zT y)]) (hints:=(fun _=>none)) fo (by kernel_rfl) func212 ⟨rfl,rfl,trivial⟩ ?_;rw [WH];dsimp only [List.map,In.env,aA,aB];refine bF {p:Nat×Nat // Nat.gcd p.1 p.2=Nat.gcd x.natAbs y.natAbs∧(bd p.1).length<17179869184∧(bd p.2).length<17179869184} (fun p=>[.one (bT p.1.1), .one (bT p.1.2), .one (.int .i64 0), .one (.exact (.slice none 0 0))]) (fun p=>p.1.2) ⟨(x.natAbs,y.natAbs),rfl,hs,hs2⟩ aO.rfl (fun _=>rfl) ?_;rintro ⟨⟨a,b⟩,hg,ha,hb⟩;dsimp only [aA,aB] at hg ha hb ⊢;have hbz:(bd b).length=0↔b=0:=by rw [List.length_eq_zero_iff,Hh]
 have hml:=fC (Nat.mod_le a b);refine vn (aQ eI (List.length_map _)) rfl ?_;dsimp only [aA,aB];refine vn eF rfl ?_;dsimp only [aA,aB];refine vs _ rfl (fun h3=>?_) (fun h3=>?_)
 ·have hb0:0<b:=by
   rcases Nat.eq_zero_or_pos b with h | h
   ·have:=hbz.2 h;omega
   ·exact h
  refine vn (aQ eI (List.length_map _)) rfl ?_;dsimp only [aA,aB];refine vn gW rfl ?_;dsimp only [aA,aB];refine vs _ rfl (fun h6=>?_) (fun h6=>?_)
  ·refine vn (aQ eI (List.length_map _)) rfl ?_;dsimp only [aA,aB];refine vn gW rfl ?_;dsimp only [aA,aB];refine vs _ rfl (fun h9=>?_) (fun h9=>?_)
   ·have h4:∀ n,(bd n).length≤4→n<1152921504606846976:=fun n hn=>Nat.lt_of_lt_of_le (Cz n) (Mm hn);have ha4:=h4 a (by omega);have hb4:=h4 b (by omega);refine aC (IL a (by omega)) rfl ?_;dsimp only [aA,aB];refine aC (IL b (by omega)) rfl ?_;dsimp only [aA,aB];refine bF {p:Nat×Nat // Nat.gcd p.1 p.2=Nat.gcd x.natAbs y.natAbs∧p.1<1152921504606846976∧p.2<1152921504606846976} (fun p=>[.one (.int .i64 p.1.1), .one (.int .i64 p.1.2)]) (fun p=>p.1.2) ⟨(a,b),hg,ha4,hb4⟩ aO.rfl (fun _=>rfl) ?_;rintro ⟨⟨p,q⟩,hpq,hp,hq⟩;dsimp only [aA,aB] at hpq hp hq ⊢;refine vn iP rfl ?_;dsimp only [aA,aB];refine vs _ rfl (fun h14=>?_) (fun h14=>?_)
    ·refine vn (CT (c:=((p%q:Nat):Int)) (by omega) (by rw [Int.tmod_eq_emod_of_nonneg (pA _),←Int.natCast_emod])) rfl ?_;dsimp only [aA,aB];exact aU rfl ⟨⟨(q,p%q),by rw [←hpq,Nat.gcd_comm p q,Nat.gcd_rec q p,Nat.gcd_comm],hq,Nat.lt_of_le_of_lt (Nat.mod_le _ _) hp⟩,aO.rfl,Nat.mod_lt _ (by omega)⟩
    have hq0:q=0:=by omega
    subst hq0;rw [Nat.gcd_zero_right] at hpq;refine aC (oP p (by omega) (by omega)) rfl ?_;dsimp only [aA,aB];rw [←hpq];exact aL rfl
   refine aC (jS a b hb0 (by omega)) rfl ?_;dsimp only [aA,aB];exact aU rfl ⟨⟨(b,a%b),by rw [←hg,Nat.gcd_comm a b,Nat.gcd_rec b a,Nat.gcd_comm],hb,by show (bd (a%b)).length<_;omega⟩,aO.rfl,Nat.mod_lt _ hb0⟩
  refine aC (jS a b hb0 (by omega)) rfl ?_;dsimp only [aA,aB];exact aU rfl ⟨⟨(b,a%b),by rw [←hg,Nat.gcd_comm a b,Nat.gcd_rec b a,Nat.gcd_comm],hb,by show (bd (a%b)).length<_;omega⟩,aO.rfl,Nat.mod_lt _ hb0⟩
 have hb0:b=0:=hbz.1 (by omega);subst hb0;rw [Nat.gcd_zero_right] at hg;refine aC (fG 1 (a:Int) (bd a) (gN _) (by omega) (by rw [eW];rfl) (fun hne=>by rw [eW] at hne;exact Int.sign_eq_one_of_pos (by omega))) rfl ?_;dsimp only [aA,aB];rw [←hg];exact aL rfl
open Go Go.Proofs Tryz Ord
def aN2:Tr:=bB .eql 3 5 0 0 2 4 (.split (.u 1 0) (.need (.call 139 [(WK 1)] [(some 2)]) (.call ⟨.value (.func 139),#[(.const (I3 1))],#[2]⟩) 47 true (.ret [(G2 2)])) (.ret [(.agg [(U 0 2),(U 0 3)])]))
theorem ay4:aN prog f136 (fun _=>none) [.v (some 4)]=aN2:=by kernel_rfl
def am1:Tr:=bB .eql 3 28 1 9 0 4 (.split (.u 10 0) (.ret [(.agg [(U 3 0),(U 3 1),(U 4 0),(U 4 1)])]) (aP 213 [(W 3 1),(W 5 1)] [none,none] [36,38] [45,45] 269 false (aP 213 [(W 4 1),(W 5 1)] [none,none] [44,46] [45,45] 269 false (aP 211 [(W 3 0),(W 11 0)] [(some 2)] [51,52] [3,45] 47 false (.need (.call 211 [(WK 1),(W 13 0)] [(some 2)]) (.call ⟨.value (.func 211),#[(.const (I3 1)),(tT 54)],#[3,45]⟩) 47 true (.ret [(.agg [(U 15 0),(U 15 1),(U 16 0),(U 16 1)])]))))))
def aS7:Tr:=bB .eql 3 22 1 6 0 4 (.split (.u 7 0) (.need (.prim [(W 5 1),(WK 0)] none) (.indexAddr 45 (tT 26) (.const (I3 0))) 0 false (eY 8 0 none 3 27 am1)) (aP 213 [(W 3 1),(W 5 1)] [none,none] [36,38] [45,45] 269 false (aP 213 [(W 4 1),(W 5 1)] [none,none] [44,46] [45,45] 269 false (aP 211 [(W 3 0),(W 8 0)] [(some 2)] [51,52] [3,45] 47 false (.need (.call 211 [(WK 1),(W 10 0)] [(some 2)]) (.call ⟨.value (.func 211),#[(.const (I3 1)),(tT 54)],#[3,45]⟩) 47 true (.ret [(.agg [(U 12 0),(U 12 1),(U 13 0),(U 13 1)])]))))))
def am5:Tr:=bB .eql 3 28 1 7 0 4 (.split (.u 8 0) (.ret [(.agg [(U 0 0),(U 0 1),(U 1 0),(U 1 1)])]) (aP 213 [(W 0 1),(W 3 1)] [none,none] [36,38] [45,45] 269 false (aP 213 [(W 1 1),(W 3 1)] [none,none] [44,46] [45,45] 269 false (aP 211 [(W 0 0),(W 9 0)] [(some 2)] [51,52] [3,45] 47 false (.need (.call 211 [(WK 1),(W 11 0)] [(some 2)]) (.call ⟨.value (.func 211),#[(.const (I3 1)),(tT 54)],#[3,45]⟩) 47 true (.ret [(.agg [(U 13 0),(U 13 1),(U 14 0),(U 14 1)])]))))))
def ax2:Tr:=bB .eql 3 22 1 4 0 4 (.split (.u 5 0) (.need (.prim [(W 3 1),(WK 0)] none) (.indexAddr 45 (tT 26) (.const (I3 0))) 0 false (eY 6 0 none 3 27 am5)) (aP 213 [(W 0 1),(W 3 1)] [none,none] [36,38] [45,45] 269 false (aP 213 [(W 1 1),(W 3 1)] [none,none] [44,46] [45,45] 269 false (aP 211 [(W 0 0),(W 6 0)] [(some 2)] [51,52] [3,45] 47 false (.need (.call 211 [(WK 1),(W 8 0)] [(some 2)]) (.call ⟨.value (.func 211),#[(.const (I3 1)),(tT 54)],#[3,45]⟩) 47 true (.ret [(.agg [(U 10 0),(U 10 1),(U 11 0),(U 11 1)])]))))))
def aW9:Tr:=bB .lss 3 11 0 1 0 4 (.split (.u 2 0) (aP 183 [(G2 0)] [(some 2)] [13] [47] 47 false (aP 183 [(G2 1)] [(some 2)] [15] [47] 47 true (aP 212 [(G2 3),(G2 4)] [(some 2)] [17,18] [47,47] 47 true (cY 5 1 21 45 aS7)))) (aP 212 [(G2 0),(G2 1)] [(some 2)] [17,18] [47,47] 47 true (cY 3 1 21 45 ax2)))
theorem QJ:aN prog f137 (fun _=>none) [.v (some 2), .v (some 2)]=aW9:=by kernel_rfl
def Zn:Tr:=.ret [(.agg [(U 1 0),(U 1 1),(U 2 0),(U 2 1)])]
def aF2:Tr:=aP 139 [(W 0 0)] [(some 2)] [3] [2] 47 true (.need (.call 139 [(WK 1)] [(some 2)]) (.call ⟨.value (.func 139),#[(.const (I3 1))],#[2]⟩) 47 true Zn)
theorem aj4:aN prog f50 (fun _=>none) [.v none]=aF2:=by kernel_rfl
def aS8:Tr:=aP 139 [(W 0 0)] [(some 2)] [5] [2] 47 false (aP 139 [(W 1 0)] [(some 2)] [7] [2] 47 true (aP 137 [(G2 2),(G2 3)] [(some 4)] [6,8] [47,47] 49 true (.ret [(G4 4)])))
theorem aW6:aN prog f79 (fun _=>none) [.v none, .v none]=aS8:=by kernel_rfl
def aW4:Tr:=aP 135 [(G2 1),(G2 4)] [(some 2)] [11,13] [47,47] 47 false (aP 138 [(G2 3),(G2 5)] [(some 2)] [9,14] [47,47] 47 false (aP 136 [(G4 0)] [(some 2)] [16] [49] 47 false (aP 136 [(G4 1)] [(some 2)] [18] [49] 47 false (aP 135 [(G2 7),(G2 8)] [(some 2)] [17,19] [47,47] 47 true (aP 137 [(G2 6),(G2 9)] [(some 4)] [15,20] [47,47] 49 true (.ret [(G4 10)]))))))
def aI1:Tr:=aP 136 [(G4 1)] [(some 2)] [7] [49] 47 false (aP 135 [(G2 0),(G2 2)] [(some 2)] [6,8] [47,47] 47 false (aP 136 [(G4 0)] [(some 2)] [12] [49] 47 false aW4))
theorem aB3:aN prog f48 (fun _=>none) [.v (some 4), .v (some 4)]=aI1:=by kernel_rfl
def ZJ:Tr:=.ret [(G4 6)]
def aV7:Tr:=aP 135 [(G2 0),(G2 1)] [(some 2)] [6,8] [47,47] 47 false (aP 136 [(G4 0)] [(some 2)] [10] [49] 47 false (aP 136 [(G4 1)] [(some 2)] [12] [49] 47 false (aP 135 [(G2 3),(G2 4)] [(some 2)] [11,13] [47,47] 47 true (aP 137 [(G2 2),(G2 5)] [(some 4)] [9,14] [47,47] 49 true ZJ))))
theorem aq2:aN prog f104 (fun _=>none) [.v (some 4), .v (some 4)]=aV7:=by kernel_rfl
def aD6:Tr:=aP 136 [(G4 1)] [(some 2)] [7] [49] 47 false (aP 135 [(G2 0),(G2 2)] [(some 2)] [6,8] [47,47] 47 false (aP 136 [(G4 0)] [(some 2)] [10] [49] 47 false (aP 135 [(G2 4),(G2 1)] [(some 2)] [11,13] [47,47] 47 true (aP 137 [(G2 3),(G2 5)] [(some 4)] [9,14] [47,47] 49 true ZJ))))
theorem af1:aN prog f102 (fun _=>none) [.v (some 4), .v (some 4)]=aD6:=by kernel_rfl
def aP2:Tr:=aP 148 [(G2 0)] [(some 2)] [4] [47] 47 false (aP 136 [(G4 0)] [(some 2)] [6] [49] 47 true Zn)
theorem as2:aN prog f60 (fun _=>none) [.v (some 4)]=aP2:=by kernel_rfl
def aU0:Tr:=aP 136 [(G4 1)] [(some 2)] [7] [49] 47 false (aP 135 [(G2 0),(G2 2)] [(some 2)] [6,8] [47,47] 47 false (aP 136 [(G4 0)] [(some 2)] [12] [49] 47 false (aP 135 [(G2 1),(G2 4)] [(some 2)] [11,13] [47,47] 47 true (aP 134 [(G2 3),(G2 5)] [none] [9,14] [47,47] 3 true (.ret [(W 6 0)])))))
theorem aB4:aN prog f47 (fun _=>none) [.v (some 4), .v (some 4)]=aU0:=by kernel_rfl
def aI6:Tr:=.ret [(W 0 0)]
theorem Wq:aN prog f46 (fun _=>none) [.v (some 4)]=aI6:=by kernel_rfl
structure RQ where
 q:Rat
 z:Bool
 h:z=true→q=0
def RQ.of (q:Rat):RQ:=⟨q,false,fun h=>by cases h⟩
def RQ.nil:RQ:=⟨0,true,fun _=>rfl⟩
abbrev rC (a:RQ):List aI:=[.int .i64 a.q.num.sign,bT a.q.num.natAbs, .int .i64 (if a.z then 0 else 1),bT (if a.z then 0 else a.q.den)]
abbrev jM (a:RQ):aG:=.agg (rC a)
theorem RQ.Xi (q:Rat):(RQ.of q).q=q:=rfl
theorem an2 (q:Rat):zT (q.den:Int) = .agg [.int .i64 1,bT q.den]:=LQ q.den_pos
theorem Bv:aX aI.Sub [.int .i64 0, .exact (.slice none 0 0), .int .i64 0, .exact (.slice none 0 0)] (rC RQ.nil):=⟨aI.Sub.same,Vn rfl,aI.Sub.same,Vn rfl,trivial⟩
theorem mP (a:RQ):aK prog 136 [(jM a:aG)] (.ret [zT (a.q.den:Int)]):=by
 refine aD (args:=[.v (some 4)]) (ins:=[.v (jM a)]) (hints:=(fun _=>none)) fo (by kernel_rfl) func136 ⟨rfl,trivial⟩ ?_;rw [ay4];dsimp only [List.map,In.env,aA,aB];refine vn bW rfl ?_;dsimp only [aA,aB];refine vs _ rfl (fun h1=>?_) (fun h1=>?_)
 ·have ha:a.z=true:=by cases h:a.z<;>simp_all
  have hq:=a.h ha;refine aC (oP 1 (by omega) (by omega)) rfl ?_;dsimp only [aA,aB];rw [hq];exact aL rfl
 have ha:a.z=false:=by cases h:a.z<;>simp_all
 refine aL ?_;rw [an2];show [aG.agg [.int .i64 (if a.z then 0 else 1),bT (if a.z then 0 else a.q.den)]]=_;rw [ha];rfl
theorem fU {n B:Nat} (h:n<2^B):(bd n).length≤B:=jO (Nat.lt_of_lt_of_le h (Nat.pow_le_pow_left (by omega) B))
def uZ (n d:Int):Rat:=mkRat (if d<0 then -n else n) d.natAbs
theorem Yu {z:Int} {d:Nat} (hd:d≠0):(mkRat z d).num=z/((z.natAbs.gcd d:Nat):Int)∧(mkRat z d).den=d/z.natAbs.gcd d∧(mkRat z d).num.natAbs=z.natAbs/z.natAbs.gcd d∧(mkRat z d).num.sign=z.sign:=by
 obtain ⟨h1,h2⟩:=SH (z:=z) hd;have hg:0<z.natAbs.gcd d:=Nat.gcd_pos_of_pos_right _ (by omega);have hgz:z≠0→z.natAbs.gcd d≤z.natAbs:=fun h=>Nat.gcd_le_left _ (by omega)
 have h3:(mkRat z d).num.natAbs=z.natAbs/z.natAbs.gcd d:=by
  rw [h1];generalize z.natAbs/z.natAbs.gcd d=t;split<;>omega
 refine ⟨?_,h2,h3,?_⟩
 ·rw [←Rat.normalize_eq_mkRat hd,Rat.normalize_eq hd]
 ·rcases cJ z with ⟨h,e⟩ | ⟨h,e⟩ | ⟨h,e⟩
  ·rw [e,h1,decide_eq_true h,if_pos rfl];have:=Nat.div_pos (hgz (by omega)) hg;exact Int.sign_eq_neg_one_of_neg (by omega)
  ·rw [e];subst h;rw [Rat.zero_mkRat];rfl
  ·rw [e,h1,decide_eq_false (by omega),if_neg (by simp)];have:=Nat.div_pos (hgz (by omega)) hg;exact Int.sign_eq_one_of_pos (by omega)
theorem wX {g:Nat} (h:(bd g).length=1) {x:Nat} (hx:(bd g)[0]? = some x):g=x:=by
 match hb:bd g,h with
 | [y],_=>
   rw [hb] at hx;simp only [List.getElem?_cons_zero,Option.some.injEq] at hx;subst hx;rw [←eW g,hb,BD];simp [bv,val]
theorem AU {q:Rat}:jM (RQ.of q) = .agg [.int .i64 q.num.sign,bT q.num.natAbs, .int .i64 1,bT q.den]:=rfl
set_option maxHeartbeats 1000000 in
theorem yP (n d:Int) (hd:d≠0) (hs:(bd n.natAbs).length<8589934592) (hs2:(bd d.natAbs).length<8589934592):aK prog 137 [(zT n:aG),(zT d:aG)] (.ret [jM (.of (uZ n d))]):=by
 refine aD (args:=[.v (some 2), .v (some 2)]) (ins:=[.v (zT n), .v (zT d)]) (hints:=(fun _=>none)) fo (by kernel_rfl) func137 ⟨rfl,rfl,trivial⟩ ?_;rw [QJ];dsimp only [List.map,In.env,aA,aB];have hsd:=cJ d
 have key:∀ m:Int,m.natAbs=n.natAbs→uZ n d=mkRat m d.natAbs→(uZ n d).den=d.natAbs/Nat.gcd n.natAbs d.natAbs∧(uZ n d).num.natAbs=n.natAbs/Nat.gcd n.natAbs d.natAbs∧(uZ n d).num.sign=m.sign:=fun m hm e=>by
  have:=Yu (z:=m) (d:=d.natAbs) (by omega);rw [hm] at this;rw [e];exact ⟨this.2.1,this.2.2.1,this.2.2.2⟩
 have hg:0<Nat.gcd n.natAbs d.natAbs:=Nat.gcd_pos_of_pos_right _ (by omega);have hgd:Nat.gcd n.natAbs d.natAbs≤d.natAbs:=Nat.gcd_le_right _ (by omega);have hgl:=fC hgd;have hdg:=Nat.div_pos hgd hg;have hnl:=fC (Nat.div_le_self n.natAbs (Nat.gcd n.natAbs d.natAbs));have hdl:=fC (Nat.div_le_self d.natAbs (Nat.gcd n.natAbs d.natAbs));refine vn bE rfl ?_;dsimp only [aA,aB];refine vs _ rfl (fun h1=>?_) (fun h1=>?_)
 ·have hd0:d<0:=by rcases hsd with ⟨h,e⟩ | ⟨h,e⟩ | ⟨h,e⟩<;>omega
  have hR:uZ n d=mkRat (-n) d.natAbs:=by rw [uZ,if_pos hd0]
  obtain ⟨k1,k2,k3⟩:=key (-n) (Int.natAbs_neg n) hR;generalize uZ n d=q at *;refine aC (HT n) rfl ?_;dsimp only [aA,aB];refine aC (HT d) rfl ?_;dsimp only [aA,aB];have hc:=MQ (-n) (-d) (by rw [Int.natAbs_neg];omega) (by rw [Int.natAbs_neg];omega);rw [Int.natAbs_neg,Int.natAbs_neg] at hc;refine aC hc rfl ?_;generalize hG:Nat.gcd n.natAbs d.natAbs=g at *;dsimp only [aA,aB];refine vn (aQ eI (List.length_map _)) rfl ?_;dsimp only [aA,aB];refine vn bW rfl ?_;dsimp only [aA,aB];refine vs _ rfl (fun h7=>?_) (fun h7=>?_)
  ·obtain ⟨x,hx⟩:∃ x,(bd g)[0]? = some x:=⟨_,List.getElem?_eq_getElem (by rw [Int.natAbs_natCast] at h7;omega)⟩
   refine vn (aY eI (by omega) (by omega) (show (bd ((g:Int)).natAbs)[0]? = some x from hx)) rfl ?_;dsimp only [aA,aB];refine vn (bH Ov) rfl ?_;dsimp only [aA,aB];refine vn bW rfl ?_;dsimp only [aA,aB];refine vs _ rfl (fun h11=>?_) (fun h11=>?_)
   ·have hg1:g=1:=by
     have:=wX (g:=g) (by rw [Int.natAbs_natCast] at h7;omega) hx;omega
    rw [hg1,Nat.div_one] at k1 k2;refine aL ?_;rw [AU,k3,k2,k1];show [aG.agg [.int .i64 (-n).sign,bT (-n).natAbs, .int .i64 (-d).sign,bT (-d).natAbs]]=_;rw [Int.natAbs_neg,Int.natAbs_neg,Int.sign_eq_one_of_pos (show 0 < -d by omega)]
   have ho1:=jS n.natAbs g hg (by omega);have ho2:=jS d.natAbs g hg (by omega);rw [←k2] at ho1 hnl;rw [←k1] at ho2 hdl hdg;have hn':(-n).natAbs=n.natAbs:=Int.natAbs_neg n;have hd':(-d).natAbs=d.natAbs:=Int.natAbs_neg d;rw [←hn'] at ho1;rw [←hd'] at ho2;refine aC ho1 rfl ?_;dsimp only [aA,aB];refine aC ho2 rfl ?_;dsimp only [aA,aB];refine aC (fG (-n).sign q.num _ (gN _) (by omega) (by rw [eW]) (fun _=>k3)) rfl ?_;dsimp only [aA,aB];refine aC (fG 1 (q.den:Int) _ (gN _) (by omega) (by rw [eW];rfl) (fun _=>Int.sign_eq_one_of_pos (by omega))) rfl ?_;dsimp only [aA,aB];refine aL ?_;rw [AU];show [aG.agg [.int .i64 q.num.sign,bT q.num.natAbs, .int .i64 (q.den:Int).sign,bT (q.den:Int).natAbs]]=_;rw [Int.sign_eq_one_of_pos (show (0:Int)<q.den by omega),Int.natAbs_natCast]
  have ho1:=jS n.natAbs g hg (by omega);have ho2:=jS d.natAbs g hg (by omega);rw [←k2] at ho1 hnl;rw [←k1] at ho2 hdl hdg;have hn':(-n).natAbs=n.natAbs:=Int.natAbs_neg n;have hd':(-d).natAbs=d.natAbs:=Int.natAbs_neg d;rw [←hn'] at ho1;rw [←hd'] at ho2;refine aC ho1 rfl ?_;dsimp only [aA,aB];refine aC ho2 rfl ?_;dsimp only [aA,aB];refine aC (fG (-n).sign q.num _ (gN _) (by omega) (by rw [eW]) (fun _=>k3)) rfl ?_;dsimp only [aA,aB];refine aC (fG 1 (q.den:Int) _ (gN _) (by omega) (by rw [eW];rfl) (fun _=>Int.sign_eq_one_of_pos (by omega))) rfl ?_;dsimp only [aA,aB];refine aL ?_;rw [AU];show [aG.agg [.int .i64 q.num.sign,bT q.num.natAbs, .int .i64 (q.den:Int).sign,bT (q.den:Int).natAbs]]=_;rw [Int.sign_eq_one_of_pos (show (0:Int)<q.den by omega),Int.natAbs_natCast]
 have hd0:0<d:=by rcases hsd with ⟨h,e⟩ | ⟨h,e⟩ | ⟨h,e⟩<;>omega
 have hR:uZ n d=mkRat n d.natAbs:=by rw [uZ,if_neg (by omega)]
 obtain ⟨k1,k2,k3⟩:=key n rfl hR;generalize uZ n d=q at *;have hc:=MQ n d (by omega) (by omega);refine aC hc rfl ?_;generalize hG:Nat.gcd n.natAbs d.natAbs=g at *;dsimp only [aA,aB];refine vn (aQ eI (List.length_map _)) rfl ?_;dsimp only [aA,aB];refine vn bW rfl ?_;dsimp only [aA,aB];refine vs _ rfl (fun h26=>?_) (fun h26=>?_)
 ·obtain ⟨x,hx⟩:∃ x,(bd g)[0]? = some x:=⟨_,List.getElem?_eq_getElem (by rw [Int.natAbs_natCast] at h26;omega)⟩
  refine vn (aY eI (by omega) (by omega) (show (bd ((g:Int)).natAbs)[0]? = some x from hx)) rfl ?_;dsimp only [aA,aB];refine vn (bH Ov) rfl ?_;dsimp only [aA,aB];refine vn bW rfl ?_;dsimp only [aA,aB];refine vs _ rfl (fun h30=>?_) (fun h30=>?_)
  ·have hg1:g=1:=by
    have:=wX (g:=g) (by rw [Int.natAbs_natCast] at h26;omega) hx;omega
   rw [hg1,Nat.div_one] at k1 k2;refine aL ?_;rw [AU,k3,k2,k1];show [aG.agg [.int .i64 n.sign,bT n.natAbs, .int .i64 d.sign,bT d.natAbs]]=_;rw [Int.sign_eq_one_of_pos (show 0<d by omega)]
  have ho1:=jS n.natAbs g hg (by omega);have ho2:=jS d.natAbs g hg (by omega);rw [←k2] at ho1 hnl;rw [←k1] at ho2 hdl hdg;refine aC ho1 rfl ?_;dsimp only [aA,aB];refine aC ho2 rfl ?_;dsimp only [aA,aB];refine aC (fG n.sign q.num _ (gN _) (by omega) (by rw [eW]) (fun _=>k3)) rfl ?_;dsimp only [aA,aB];refine aC (fG 1 (q.den:Int) _ (gN _) (by omega) (by rw [eW];rfl) (fun _=>Int.sign_eq_one_of_pos (by omega))) rfl ?_;dsimp only [aA,aB];refine aL ?_;rw [AU];show [aG.agg [.int .i64 q.num.sign,bT q.num.natAbs, .int .i64 (q.den:Int).sign,bT (q.den:Int).natAbs]]=_;rw [Int.sign_eq_one_of_pos (show (0:Int)<q.den by omega),Int.natAbs_natCast]
 have ho1:=jS n.natAbs g hg (by omega);have ho2:=jS d.natAbs g hg (by omega);rw [←k2] at ho1 hnl;rw [←k1] at ho2 hdl hdg;refine aC ho1 rfl ?_;dsimp only [aA,aB];refine aC ho2 rfl ?_;dsimp only [aA,aB];refine aC (fG n.sign q.num _ (gN _) (by omega) (by rw [eW]) (fun _=>k3)) rfl ?_;dsimp only [aA,aB];refine aC (fG 1 (q.den:Int) _ (gN _) (by omega) (by rw [eW];rfl) (fun _=>Int.sign_eq_one_of_pos (by omega))) rfl ?_;dsimp only [aA,aB];refine aL ?_;rw [AU];show [aG.agg [.int .i64 q.num.sign,bT q.num.natAbs, .int .i64 (q.den:Int).sign,bT (q.den:Int).natAbs]]=_;rw [Int.sign_eq_one_of_pos (show (0:Int)<q.den by omega),Int.natAbs_natCast]
theorem Kx {n:Int} {d:Nat}:uZ n (d:Int)=mkRat n d:=by
 rw [uZ,if_neg (by omega),Int.natAbs_natCast]
theorem JR {a b:Rat} (hb:b≠0):uZ (a.num*(b.den:Int)) ((a.den:Int)*b.num)=a/b:=by
 have hn:b.num≠0:=fun e=>hb (Rat.num_eq_zero.1 e);have ha:=a.den_pos;rw [←SR hb,uZ,Int.natAbs_mul,Int.natAbs_natCast];by_cases h:b.num<0
 ·rw [if_pos (Int.mul_neg_of_pos_of_neg (by omega) h),decide_eq_true h,if_pos rfl,Int.mul_neg]
 ·rw [if_neg (by have:=Int.mul_nonneg (show (0:Int)≤a.den by omega) (show 0≤b.num by omega);omega),decide_eq_false h,if_neg (by simp)]
theorem YH {n d:Int} (hd:d≠0):uZ n d=(n:Rat)/(d:Rat):=by
 have h:=JR (a:=(n:Rat)) (b:=(d:Rat)) (by rw [Ne,←Rat.num_eq_zero,Rat.num_intCast];exact hd);rw [Rat.num_intCast,Rat.num_intCast,Rat.den_intCast,Rat.den_intCast] at h;rw [←h];congr 1<;>omega
theorem Fit.bd {B:Nat} {q:Rat} (h:Fit B q):(bd q.num.natAbs).length≤B∧(bd q.den).length≤B:=⟨fU h.1,fU h.2⟩
theorem rM (n:Int) (h1:-9223372036854775808≤n) (h2:n<9223372036854775808):aK prog 50 [(.one (.int .i64 n):aG)] (.ret [jM (.of (n:Rat))]):=by
 refine aD (args:=[.v none]) (ins:=[.v (.one (.int .i64 n))]) (hints:=(fun _=>none)) fo (by kernel_rfl) func50 ⟨rfl,trivial⟩ ?_;rw [aj4];dsimp only [List.map,In.env,aA,aB];refine aC (oP n h1 h2) rfl ?_;dsimp only [aA,aB];refine aC (oP 1 (by omega) (by omega)) rfl ?_;dsimp only [aA,aB];rw [AU,Rat.num_intCast,Rat.den_intCast];exact aL rfl
theorem Sj (n d:Int) (hd:d≠0) (h1:-9223372036854775808≤n) (h2:n<9223372036854775808) (h3:-9223372036854775808≤d) (h4:d<9223372036854775808):aK prog 79 [(.one (.int .i64 n):aG),(.one (.int .i64 d):aG)] (.ret [jM (.of ((n:Rat)/(d:Rat)))]):=by
 refine aD (args:=[.v none, .v none]) (ins:=[.v (.one (.int .i64 n)), .v (.one (.int .i64 d))]) (hints:=(fun _=>none)) fo (by kernel_rfl) func79 ⟨rfl,rfl,trivial⟩ ?_;rw [aW6];dsimp only [List.map,In.env,aA,aB];refine aC (oP n h1 h2) rfl ?_;dsimp only [aA,aB];refine aC (oP d h3 h4) rfl ?_;dsimp only [aA,aB];have hn:=fU (n:=n.natAbs) (B:=64) (by omega);have hdd:=fU (n:=d.natAbs) (B:=64) (by omega);refine aC (yP n d hd (by omega) (by omega)) rfl ?_;rw [YH hd];exact aL rfl
theorem GB (a:RQ):aK prog 60 [(jM a:aG)] (.ret [jM (.of a.q.abs)]):=by
 refine aD (args:=[.v (some 4)]) (ins:=[.v (jM a)]) (hints:=(fun _=>none)) fo (by kernel_rfl) func60 ⟨rfl,trivial⟩ ?_;rw [as2];dsimp only [List.map,In.env,aA,aB];refine aC (Vo a.q.num) rfl ?_;dsimp only [aA,aB];refine aC (mP a) rfl ?_;dsimp only [aA,aB];refine aL ?_;rw [AU,(kO a.q).1,(kO a.q).2];show [aG.agg [.int .i64 ((a.q.num.natAbs:Nat):Int).sign,bT ((a.q.num.natAbs:Nat):Int).natAbs, .int .i64 (a.q.den:Int).sign,bT (a.q.den:Int).natAbs]]=_;have:=a.q.den_pos;rw [Int.sign_eq_one_of_pos (show (0:Int)<a.q.den by omega)];simp only [Int.natAbs_natCast]
theorem Wv (a:RQ):aK prog 46 [(jM a:aG)] (.ret [.one (.int .i64 a.q.num.sign)]):=by
 refine aD (args:=[.v (some 4)]) (ins:=[.v (jM a)]) (hints:=(fun _=>none)) fo (by kernel_rfl) func46 ⟨rfl,trivial⟩ ?_;rw [Wq];dsimp only [List.map,In.env,aA,aB];exact aL rfl
theorem tR (a b:RQ) (A B:Nat) (ha:Fit A a.q) (hb:Fit B b.q) (h:A+B≤4294967296):aK prog 104 [(jM a:aG),(jM b:aG)] (.ret [jM (.of (a.q*b.q))]):=by
 refine aD (args:=[.v (some 4), .v (some 4)]) (ins:=[.v (jM a), .v (jM b)]) (hints:=(fun _=>none)) fo (by kernel_rfl) func104 ⟨rfl,rfl,trivial⟩ ?_;rw [aq2];dsimp only [List.map,In.env,aA,aB];obtain ⟨ha1,ha2⟩:=Fit.bd ha;obtain ⟨hb1,hb2⟩:=Fit.bd hb;have hn:=fU (bI ha.1 hb.1);have hd:=fU (bI ha.2 hb.2);have hpa:=a.q.den_pos;have hpb:=b.q.den_pos;refine aC (jA a.q.num b.q.num (by omega)) rfl ?_;dsimp only [aA,aB];refine aC (mP a) rfl ?_;dsimp only [aA,aB];refine aC (mP b) rfl ?_;dsimp only [aA,aB];refine aC (jA (a.q.den:Int) (b.q.den:Int) (by rw [Int.natAbs_natCast,Int.natAbs_natCast];omega)) rfl ?_;rw [←Int.natCast_mul];dsimp only [aA,aB];refine aC (yP _ ((a.q.den*b.q.den:Nat):Int) (by have:=Nat.mul_pos hpa hpb;omega) (by rw [Int.natAbs_mul];omega) (by rw [Int.natAbs_natCast];omega)) rfl ?_;rw [Kx,←Rat.mul_def'];exact aL rfl
theorem wA (a b:RQ) (A B:Nat) (ha:Fit A a.q) (hb:Fit B b.q) (h:A+B≤4294967296):aK prog 48 [(jM a:aG),(jM b:aG)] (.ret [jM (.of (a.q+b.q))]):=by
 refine aD (args:=[.v (some 4), .v (some 4)]) (ins:=[.v (jM a), .v (jM b)]) (hints:=(fun _=>none)) fo (by kernel_rfl) func48 ⟨rfl,rfl,trivial⟩ ?_;rw [aB3];dsimp only [List.map,In.env,aA,aB];obtain ⟨ha1,ha2⟩:=Fit.bd ha;obtain ⟨hb1,hb2⟩:=Fit.bd hb;have hn1:=fU (bI ha.1 hb.2);have hn2:=fU (bI hb.1 ha.2);have hd:=fU (bI ha.2 hb.2);have hpa:=a.q.den_pos;have hpb:=b.q.den_pos
 have hsum:(bd (a.q.num*(b.q.den:Int)+b.q.num*(a.q.den:Int)).natAbs).length≤A+B+1:=by
  apply fU;have h1:=bI ha.1 hb.2;have h2:=bI hb.1 ha.2;rw [Nat.add_comm B A] at h2;rw [Nat.pow_succ];refine Nat.lt_of_le_of_lt (Int.natAbs_add_le _ _) ?_;rw [Int.natAbs_mul,Int.natAbs_mul,Int.natAbs_natCast,Int.natAbs_natCast];omega
 refine aC (mP b) rfl ?_;dsimp only [aA,aB];refine aC (jA a.q.num (b.q.den:Int) (by rw [Int.natAbs_natCast];omega)) rfl ?_;dsimp only [aA,aB];refine aC (mP a) rfl ?_;dsimp only [aA,aB];refine aC (jA b.q.num (a.q.den:Int) (by rw [Int.natAbs_natCast];omega)) rfl ?_;dsimp only [aA,aB];refine aC (MN _ _ (by rw [Int.natAbs_mul,Int.natAbs_natCast];omega) (by rw [Int.natAbs_mul,Int.natAbs_natCast];omega)) rfl ?_;dsimp only [aA,aB];refine aC (mP a) rfl ?_;dsimp only [aA,aB];refine aC (mP b) rfl ?_;dsimp only [aA,aB];refine aC (jA (a.q.den:Int) (b.q.den:Int) (by rw [Int.natAbs_natCast,Int.natAbs_natCast];omega)) rfl ?_;rw [←Int.natCast_mul a.q.den b.q.den];dsimp only [aA,aB];refine aC (yP _ ((a.q.den*b.q.den:Nat):Int) (by have:=Nat.mul_pos hpa hpb;omega) (by omega) (by rw [Int.natAbs_natCast];omega)) rfl ?_;rw [Kx,←Rat.add_def'];exact aL rfl
theorem QM (a b:RQ) (A B:Nat) (hb0:b.q≠0) (ha:Fit A a.q) (hb:Fit B b.q) (h:A+B≤4294967296):aK prog 102 [(jM a:aG),(jM b:aG)] (.ret [jM (.of (a.q/b.q))]):=by
 refine aD (args:=[.v (some 4), .v (some 4)]) (ins:=[.v (jM a), .v (jM b)]) (hints:=(fun _=>none)) fo (by kernel_rfl) func102 ⟨rfl,rfl,trivial⟩ ?_;rw [af1];dsimp only [List.map,In.env,aA,aB];obtain ⟨ha1,ha2⟩:=Fit.bd ha;obtain ⟨hb1,hb2⟩:=Fit.bd hb;have hn:=fU (bI ha.1 hb.2);have hd:=fU (bI ha.2 hb.1);have hpa:=a.q.den_pos;have hnb:b.q.num≠0:=fun e=>hb0 (Rat.num_eq_zero.1 e);refine aC (mP b) rfl ?_;dsimp only [aA,aB];refine aC (jA a.q.num (b.q.den:Int) (by rw [Int.natAbs_natCast];omega)) rfl ?_;dsimp only [aA,aB];refine aC (mP a) rfl ?_;dsimp only [aA,aB];refine aC (jA (a.q.den:Int) b.q.num (by rw [Int.natAbs_natCast];omega)) rfl ?_;dsimp only [aA,aB];refine aC (yP _ _ (Int.mul_ne_zero (by omega) hnb) (by rw [Int.natAbs_mul,Int.natAbs_natCast];omega) (by rw [Int.natAbs_mul,Int.natAbs_natCast];omega)) rfl ?_;rw [JR hb0];exact aL rfl
theorem Qq (a b:RQ) (A B:Nat) (ha:Fit A a.q) (hb:Fit B b.q) (h:A+B≤4294967296):aK prog 47 [(jM a:aG),(jM b:aG)] (.ret [.one (.int .i64 (mN a.q b.q))]):=by
 refine aD (args:=[.v (some 4), .v (some 4)]) (ins:=[.v (jM a), .v (jM b)]) (hints:=(fun _=>none)) fo (by kernel_rfl) func47 ⟨rfl,rfl,trivial⟩ ?_;rw [aB4];dsimp only [List.map,In.env,aA,aB];obtain ⟨ha1,ha2⟩:=Fit.bd ha;obtain ⟨hb1,hb2⟩:=Fit.bd hb;have hn1:=fU (bI ha.1 hb.2);have hn2:=fU (bI hb.1 ha.2);refine aC (mP b) rfl ?_;dsimp only [aA,aB];refine aC (jA a.q.num (b.q.den:Int) (by rw [Int.natAbs_natCast];omega)) rfl ?_;dsimp only [aA,aB];refine aC (mP a) rfl ?_;dsimp only [aA,aB];refine aC (jA b.q.num (a.q.den:Int) (by rw [Int.natAbs_natCast];omega)) rfl ?_;dsimp only [aA,aB];refine aC (Vw _ _ (by rw [Int.natAbs_mul,Int.natAbs_natCast];omega) (by rw [Int.natAbs_mul,Int.natAbs_natCast];omega)) rfl ?_;rw [←Af];exact aL rfl
end Go.Sy
