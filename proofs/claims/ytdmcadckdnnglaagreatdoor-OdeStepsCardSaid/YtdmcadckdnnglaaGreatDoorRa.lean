/- The reference's integers: digits to the base 2^15, the highest first. The reference's integers: the operations.
-/
import Derived.Test.YtdmcadckdnnglaaGreatDoorNc
import Derived.Test.YtdmcadckdnnglaaGreatDoorPa
set_option linter.unusedVariables false
set_option linter.unusedSimpArgs false
namespace Go.Sy
open Go Go.Proofs Tryz Ord
def QO:Tr:=.ret [(W 1 0)]
def aU4:Tr:=.split (.u 3 0) (.need (.prim [(W 1 0),(WK 0)] none) (.indexAddr 45 (tT 7) (.const (I3 0))) 0 false (dI 4 0 none 3 8 (aU .eql 3 9 0 5 0 4 (.split (.u 6 0) (.need (.prim [(W 1 0),(WK 1)] none) (.slice 45 (tT 12) (some (.const (I3 1))) none none) 45 false (.back 0 [lV 7 0])) QO)))) QO
def aE5:Tr:=.loop 0 [lV 0 0] (cB 1 0 3 45 (aU .gtr 3 4 0 2 0 4 aU4))
theorem TY:aN prog f260 (fun _=>none) [.v none]=aE5:=by kernel_rfl
def aI4:Tr:=aK 260 [(W 1 0)] [none] [5] [45] 45 true (cB 2 0 7 45 (aU .eql 3 8 0 3 0 4 (.split (.u 4 0) (.ret [(.agg [(tE (.int .i64 0)),tN])]) (.ret [(.agg [(U 0 0),(U 2 0)])]))))
theorem Yl:aN prog f211 (fun _=>none) [.v none, .v none]=aI4:=by kernel_rfl
def aJ7:Tr:=aU .lss 3 12 0 5 0 4 (.split (.u 6 0) (.need (.prim [(W 5 0)] none) (.unOp .neg 3 (tT 14)) 3 false (.need (.lit 1 [[(.u 7 0)]]) (.buildSlice 45 1 #[(0,(tT 16))]) 45 false (.need (.app 1 8 (some 8) none (some 3)) (.call ⟨.builtin .append,#[(tT 17),(tT 18)],#[45,45]⟩) 45 false (aU .quo 2 20 32768 2 0 2 (.back 0 [lV 10 0, .row 9]))))) (.need (.lit 1 [[(.u 5 0)]]) (.buildSlice 45 1 #[(0,(tT 16))]) 45 false (.need (.app 1 8 (some 7) none (some 3)) (.call ⟨.builtin .append,#[(tT 17),(tT 18)],#[45,45]⟩) 45 false (aU .quo 2 20 32768 2 0 2 (.back 0 [lV 9 0, .row 8])))))
def Zj:Tr:=aU .rem 2 10 32768 2 0 2 aJ7
def PZ:Tr:=.ret [(G2 5)]
def aQ7:Tr:=aU .lss 2 6 0 0 0 4 (.split (.u 1 0) (.loop 0 [lV 0 0, .nilrow] (aU .neq 2 8 0 2 0 4 (.split (.u 4 0) Zj (aK 211 [(WK (-1)),(.one (.c (.sr 1 3)))] [(some 2)] [22,23] [3,45] 47 true PZ)))) (.loop 0 [lV 0 0, .nilrow] (aU .neq 2 8 0 2 0 4 (.split (.u 4 0) Zj (aK 211 [(WK 1),(.one (.c (.sr 1 3)))] [(some 2)] [22,23] [3,45] 47 true PZ)))))
theorem Ys:aN prog f139 (fun _=>none) [.v none]=aQ7:=by kernel_rfl
def Zi:Tr:=.ret [(WK (-1))]
def Zu:Tr:=.ret [(WK 1)]
def ak1:Tr:=dI 14 0 none 3 33 (eD 1 0 6 0 45 35 36 (dI 16 0 none 3 37 (bJ .gtr 3 34 38 15 0 17 0 4 (.split (.u 18 0) Zu (aU .add 3 20 1 6 0 3 (.back 0 [lV 5 0,lV 19 0]))))))
def aq4:Tr:=eD 0 0 6 0 45 22 23 (dI 9 0 none 3 24 (eD 1 0 6 0 45 26 27 (dI 11 0 none 3 28 (bJ .lss 3 25 29 10 0 12 0 4 (.split (.u 13 0) Zi (eD 0 0 6 0 45 31 32 ak1))))))
def Tb:Tr:=.ret [(WK 0)]
def aU6:Tr:=cB 1 0 8 45 (bJ .neq 3 7 9 2 0 3 0 4 (.split (.u 4 0) (cB 0 0 11 45 (cB 1 0 13 45 (bJ .lss 3 12 14 5 0 6 0 4 (.split (.u 7 0) Zi Zu)))) (.loop 0 [lK 0,lK 0] (cB 0 0 17 45 (bJ .lss 3 16 18 6 0 7 0 4 (.split (.u 8 0) aq4 Tb))))))
def aI3:Tr:=cB 0 0 6 45 aU6
theorem TB:aN prog f215 (fun _=>none) [.v none, .v none]=aI3:=by kernel_rfl
def aP4:Tr:=.split (.u 3 0) Tb (cB 0 0 10 45 (aU .sub 3 11 1 4 0 3 (bJ .sub 3 12 13 5 0 1 0 3 (eD 0 0 6 0 45 9 14 (dI 7 0 none 3 15 (.ret [(W 8 0)]))))))
def aO2:Tr:=cB 0 0 6 45 (bJ .geq 3 5 7 1 0 2 0 4 aP4)
theorem SA:aN prog f263 (fun _=>none) [.v none, .v none]=aO2:=by kernel_rfl
def Za:Tr:=.ret [(W 5 0)]
def aT4:Tr:=cB 0 0 5 45 (cB 1 0 7 45 (bJ .gtr 3 6 8 2 0 3 0 4 (.split (.u 4 0) (cB 0 0 10 45 Za) (cB 1 0 12 45 Za))))
theorem Ke:aN prog f262 (fun _=>none) [.v none, .v none]=aT4:=by kernel_rfl
def av9:Tr:=aU .sub 3 40 32768 16 0 3 (aU .sub 3 43 1 4 0 3 (bJ .sub 3 44 45 19 0 7 0 3 (.need (.idx 8 (.u 20 0)) (.indexAddr 45 (tT 42) (tT 46)) 0 false (.need (.strow 8 1 (.u 20 0) 0 [(.u 18 0)]) (.store 3 (tT 48) (tT 47)) 0 false (aU .add 3 21 1 7 0 3 (.back 0 [lK 1,lV 22 0, .row 21]))))))
def at0:Tr:=.split (.u 17 0) av9 (aU .sub 3 43 1 4 0 3 (bJ .sub 3 44 45 18 0 7 0 3 (.need (.idx 8 (.u 19 0)) (.indexAddr 45 (tT 42) (tT 46)) 0 false (.need (.strow 8 1 (.u 19 0) 0 [(.u 16 0)]) (.store 3 (tT 48) (tT 47)) 0 false (aU .add 3 21 1 7 0 3 (.back 0 [lK (-1),lV 21 0, .row 20]))))))
def am3:Tr:=aU .sub 3 40 32768 14 0 3 (aU .sub 3 43 1 4 0 3 (bJ .sub 3 44 45 18 0 7 0 3 (.need (.idx 8 (.u 19 0)) (.indexAddr 45 (tT 42) (tT 46)) 0 false (.need (.strow 8 1 (.u 19 0) 0 [(.u 17 0)]) (.store 3 (tT 48) (tT 47)) 0 false (aU .add 3 21 1 7 0 3 (.back 0 [lK 1,lV 21 0, .row 20]))))))
def ai4:Tr:=.split (.u 16 0) am3 (aU .sub 3 43 1 4 0 3 (bJ .sub 3 44 45 17 0 7 0 3 (.need (.idx 8 (.u 18 0)) (.indexAddr 45 (tT 42) (tT 46)) 0 false (.need (.strow 8 1 (.u 18 0) 0 [(.u 14 0)]) (.store 3 (tT 48) (tT 47)) 0 false (aU .add 3 21 1 7 0 3 (.back 0 [lK 0,lV 20 0, .row 19]))))))
def aH9:Tr:=bJ .mul 3 26 29 2 0 11 0 3 (bJ .add 3 25 30 10 0 12 0 3 (bJ .add 3 31 32 13 0 6 0 3 (aU .lss 3 34 0 14 0 4 (.split (.u 15 0) (aU .add 3 36 32768 14 0 3 (aU .geq 3 38 32768 16 0 4 at0)) (aU .geq 3 38 32768 14 0 4 ai4)))))
def aS3:Tr:=aU .add 3 14 1 3 0 3 (.need (.make [(.int .i64 0)] 8 (.u 4 0) (.u 4 0)) (.makeSlice 45 (tT 16) (tT 16)) 45 false (.loop 0 [lK 0,lK 0, .row 5] (bJ .lss 3 18 19 7 0 4 0 4 (.split (.u 9 0) (aK 263 [(W 0 0),(W 7 0)] [none] [23,24] [45,3] 3 false (aK 263 [(W 1 0),(W 7 0)] [none] [27,28] [45,3] 3 false aH9)) (aK 260 [(.one (.c (.sr 1 8)))] [none] [49] [45] 45 true (.ret [(W 10 0)]))))))
def aW5:Tr:=aK 262 [(W 0 0),(W 1 0)] [none] [12,13] [45,45] 3 true aS3
theorem YG:aN prog f214 (fun _=>none) [.v none, .v none, .v none]=aW5:=by kernel_rfl
def Zl:Tr:=.ret [(.agg [(U 1 0),(U 0 1)])]
def aW6:Tr:=.need (.prim [(W 0 0)] none) (.unOp .neg 3 (tT 4)) 3 false Zl
theorem XC:aN prog f183 (fun _=>none) [.v (some 2)]=aW6:=by kernel_rfl
def aL0:Tr:=bJ .mul 3 4 6 0 0 0 0 3 Zl
theorem Wp:aN prog f148 (fun _=>none) [.v (some 2)]=aL0:=by kernel_rfl
def Pt:Tr:=.ret [(G2 8)]
def aO7:Tr:=bJ .eql 3 14 16 0 0 1 0 4 (.split (.u 4 0) (.need (.call 214 [(W 0 1),(W 1 1),(WK 1)] [none]) (.call ⟨.value (.func 214),#[(tT 21),(tT 23),(.const (I3 1))],#[45,45,3]⟩) 45 true (aK 211 [(W 0 0),(W 5 0)] [(some 2)] [19,24] [3,45] 47 true (.ret [(G2 6)]))) (aK 215 [(W 0 1),(W 1 1)] [none] [27,29] [45,45] 3 true (aU .geq 3 30 0 5 0 4 (.split (.u 6 0) (.need (.call 214 [(W 0 1),(W 1 1),(WK (-1))] [none]) (.call ⟨.value (.func 214),#[(tT 35),(tT 37),(.const (I3 (-1)))],#[45,45,3]⟩) 45 true (aK 211 [(W 0 0),(W 7 0)] [(some 2)] [33,38] [3,45] 47 true Pt)) (.need (.call 214 [(W 1 1),(W 0 1),(WK (-1))] [none]) (.call ⟨.value (.func 214),#[(tT 43),(tT 45),(.const (I3 (-1)))],#[45,45,3]⟩) 45 true (aK 211 [(W 1 0),(W 7 0)] [(some 2)] [41,46] [3,45] 47 true Pt))))))
def aV2:Tr:=aU .eql 3 6 0 0 0 4 (.split (.u 2 0) (.ret [(G2 1)]) (aU .eql 3 10 0 1 0 4 (.split (.u 3 0) (.ret [(G2 0)]) aO7)))
theorem Xz:aN prog f138 (fun _=>none) [.v (some 2), .v (some 2)]=aV2:=by kernel_rfl
def aO5:Tr:=aK 183 [(G2 1)] [(some 2)] [6] [47] 47 true (aK 138 [(G2 0),(G2 2)] [(some 2)] [5,7] [47,47] 47 true (.ret [(G2 3)]))
theorem Yi:aN prog f210 (fun _=>none) [.v (some 2), .v (some 2)]=aO5:=by kernel_rfl
def an4:Tr:=aU .add 3 58 1 27 0 3 (aU .rem 3 60 32768 26 0 3 (.need (.idx 15 (.u 28 0)) (.indexAddr 45 (tT 55) (tT 59)) 0 false (.need (.strow 15 1 (.u 28 0) 0 [(.u 29 0)]) (.store 3 (tT 62) (tT 61)) 0 false (aU .quo 3 63 32768 26 0 3 (aU .sub 3 32 1 14 0 3 (.back 1 [lV 31 0,lV 32 0, .row 30]))))))
def av2:Tr:=dI 20 0 none 3 44 (eD 1 1 14 0 45 47 48 (dI 22 0 none 3 49 (bJ .mul 3 45 50 21 0 23 0 3 (bJ .add 3 40 51 19 0 24 0 3 (bJ .add 3 52 53 25 0 13 0 3 (bJ .add 3 56 57 8 0 14 0 3 an4))))))
def ak7:Tr:=aU .geq 3 30 0 14 0 4 (.split (.u 16 0) (bJ .add 3 35 36 8 0 14 0 3 (aU .add 3 37 1 17 0 3 (.need (.idx 15 (.u 18 0)) (.indexAddr 45 (tT 34) (tT 38)) 0 false (.need (.ldrow 15 (.u 18 0) 0 1 false) (.load 3 (tT 39)) 3 false (eD 0 1 8 0 45 42 43 av2))))) (.need (.idx 15 (.u 8 0)) (.indexAddr 45 (tT 65) (tT 66)) 0 false (.need (.strow 15 1 (.u 8 0) 0 [(.u 13 0)]) (.store 3 (tT 68) (tT 67)) 0 false (aU .sub 3 24 1 8 0 3 (.back 0 [lV 18 0, .row 17])))))
def aP9:Tr:=aU .sub 3 20 1 6 0 3 (.loop 0 [lV 7 0, .row 5] (aU .geq 3 22 0 8 0 4 (.split (.u 10 0) (cB 1 1 27 45 (aU .sub 3 28 1 11 0 3 (.loop 1 [lK 0,lV 12 0, .row 9] ak7))) (bJ .mul 3 70 72 0 0 1 0 3 (aK 211 [(W 11 0),(.one (.c (.sr 1 9)))] [(some 2)] [73,74] [3,45] 47 true (.ret [(G2 12)]))))))
def aG4:Tr:=cB 0 1 11 45 (cB 1 1 14 45 (bJ .add 3 12 15 2 0 3 0 3 (.need (.make [(.int .i64 0)] 8 (.u 4 0) (.u 4 0)) (.makeSlice 45 (tT 16) (tT 16)) 45 false (cB 0 1 19 45 aP9))))
theorem Yo:aN prog f135 (fun _=>none) [.v (some 2), .v (some 2)]=aG4:=by kernel_rfl
def aR1:Tr:=aK 210 [(G2 0),(G2 1)] [(some 2)] [5,6] [47,47] 47 true (.ret [(W 2 0)])
theorem Ur:aN prog f134 (fun _=>none) [.v (some 2), .v (some 2)]=aR1:=by kernel_rfl
abbrev rB (ds:List Nat):List (List aH):=ds.map fun (d:Nat)=>[aH.int .i64 (d:Int)]
abbrev sB (ds:List Nat):aH:=.slice 1 (rB ds)
abbrev bT (n:Nat):aH:=sB (bd n)
abbrev zC (z:Int):List aH:=[.int .i64 z.sign,bT z.natAbs]
abbrev zT (z:Int):aF:=.agg (zC z)
theorem QR:DB 32768 []:=fun d hd=>by cases hd
theorem UJ {n:Nat} (h:n=0):aH.Sub (.exact (.slice none 0 0)) (bT n):=by
 subst h;rw [bT,AV];exact aH.Sub.nil
theorem sliceB {ds:List Nat} {x:Operand} {ty:Nat} {y:Operand} {k:IntKind} {n:Int} {m:Nat} (h0:0≤n) (hm:n.toNat=m) (hn:m≤ds.length):aX prog (.slice 45 x (some y) none none) ty [.one (sB ds), .one (.int k n)] (.one (sB (ds.drop m))):=by
 have:=Fh (P:=prog) (T:=45) (x:=x) (y:=y) (ty:=ty) (k:=k) (n:=n) (ts:=rB ds) eI h0 (by rw [List.length_map,hm];exact hn);rw [hm,rB,←List.map_drop] at this;exact this
theorem UY {ds:List Nat} {x:Operand} {ty:Nat} {y:Operand} {k:IntKind} {n:Int} {m:Nat} (h0:0≤n) (hm:n.toNat=m) (hn:m≤ds.length):aX prog (.slice 45 x none (some y) none) ty [.one (sB ds), .one (.int k n)] (.one (sB (ds.take m))):=by
 have:=EL (P:=prog) (T:=45) (x:=x) (y:=y) (ty:=ty) (k:=k) (n:=n) (ts:=rB ds) eI h0 (by rw [List.length_map,hm];exact hn);rw [hm,rB,←List.map_take] at this;exact this
theorem tG (ds:List Nat) (hd:DB 32768 ds) (hs:ds.length<4611686018427387904):aM prog 260 [(.one (sB ds):aF)] (.ret [.one (bT (bv ds))]):=by
 refine aD (args:=[.v none]) (ins:=[.v (.one (sB ds))]) (hints:=(fun _=>none)) fo (by kernel_rfl) func260 ⟨rfl,trivial⟩ ?_;rw [TY];dsimp only [List.map,In.env,aB,aA];refine bC {xs:List Nat // DB 32768 xs∧bv xs=bv ds∧xs.length≤ds.length} (fun g=>[.one (sB g.1)]) (fun g=>g.1.length) ⟨ds,hd,rfl,Nat.le_refl _⟩ aO.rfl (fun _=>rfl) ?_;rintro ⟨xs,hx,hv,hl⟩;dsimp only [aB,aA] at hx hv hl ⊢;refine vn (aP eI (List.length_map _)) rfl ?_;dsimp only [aB,aA];refine vn dB rfl ?_;dsimp only [aB,aA];refine vs _ rfl (fun h3=>?_) (fun h3=>?_)
 ·obtain ⟨d,hget⟩:∃ d,xs[0]? = some d:=⟨_,List.getElem?_eq_getElem (by omega)⟩
  refine vn (aW eI (by omega) (by omega) hget) rfl ?_;dsimp only [aB,aA];refine vn (bF LK) rfl ?_;dsimp only [aB,aA];refine vn bL rfl ?_;dsimp only [aB,aA];refine vs _ rfl (fun h7=>?_) (fun h7=>?_)
  ·refine vn (sliceB (by omega) rfl (by omega)) rfl ?_;dsimp only [aB,aA]
   exact aR rfl ⟨⟨xs.drop 1,hx.drop 1,by
    have h7:d=0:=by omega
    rw [←hv,Oq hget,h7,Nat.mul_zero,Nat.add_zero],by show (xs.drop 1).length≤_;rw [List.length_drop];omega⟩,aO.rfl,by show (xs.drop 1).length<xs.length;rw [List.length_drop];omega⟩
  have e:bd (bv ds)=xs:=by
   rw [←hv];refine aV7 hx fun d' h'=>?_;rw [List.head?_eq_getElem?,hget] at h';simp only [Option.some.injEq] at h';subst h';omega
  rw [bT,e];exact aL rfl
 have e:bd (bv ds)=xs:=by
  have:xs = []:=List.eq_nil_of_length_eq_zero (by omega);rw [←hv,this];exact AV
 rw [bT,e];exact aL rfl
theorem eV (s z:Int) (ds:List Nat) (hd:DB 32768 ds) (hs:ds.length<4611686018427387904) (h1:z.natAbs=bv ds) (h2:bv ds≠0→z.sign=s):aM prog 211 [(.one (.int .i64 s):aF),(.one (sB ds):aF)] (.ret [zT z]):=by
 refine aD (args:=[.v none, .v none]) (ins:=[.v (.one (.int .i64 s)), .v (.one (sB ds))]) (hints:=(fun _=>none)) fo (by kernel_rfl) func211 ⟨rfl,rfl,trivial⟩ ?_;rw [Yl];dsimp only [List.map,In.env,aB,aA];have hlen:(bd (bv ds)).length=0↔bv ds=0:=by rw [List.length_eq_zero_iff,BC]
 have hl2:(bd (bv ds)).length≤ds.length:=iP (Jh hd);refine aC (tG ds hd hs) rfl ?_;dsimp only [aB,aA];refine vn (aP eI (List.length_map _)) rfl ?_;dsimp only [aB,aA];refine vn bL rfl ?_;dsimp only [aB,aA];refine vs _ rfl (fun h3=>?_) (fun h3=>?_)
 ·have hz:z=0:=by
   have:=hlen.1 (by omega);omega
  subst hz;exact eG ⟨⟨aH.Sub.same,UJ rfl,trivial⟩,trivial⟩
 refine aL ?_;rw [←h2 (fun h=>h3 (by have:=hlen.2 h;omega)),←h1];rfl
theorem II {ds:List Nat} {m n:Nat} (hm:m≠0) (h:bv ds+32768^ds.length*m=n) (hn:n<18446744073709551616):ds.length≤4:=by
 rcases Nat.lt_or_ge ds.length 5 with h1 | h1
 ·omega
 ·have h2:32768^5≤32768^ds.length:=Nat.pow_le_pow_right (by omega) h1;have h3:32768^ds.length≤32768^ds.length*m:=Nat.le_mul_of_pos_right _ (by omega);omega
theorem zH {ds:List Nat} {m n:Nat} (h:bv ds+32768^ds.length*m=n):bv (m%32768::ds)+32768^(m%32768::ds).length*(m/32768)=n:=by
 rw [AO,List.length_cons,Nat.pow_succ,Nat.add_assoc,Nat.mul_assoc,←Nat.mul_add,Nat.mod_add_div];exact h
theorem neg_tmod {m:Nat}:(-(m:Int)).tmod 32768 = -((m%32768:Nat):Int):=by rw [Int.neg_tmod,Int.tmod_eq_emod_of_nonneg (by omega)];omega
theorem neg_tdiv {m:Nat}:(-(m:Int)).tdiv 32768 = -((m/32768:Nat):Int):=by rw [Int.neg_tdiv,Int.tdiv_eq_ediv_of_nonneg (by omega)];omega
theorem gJ (n:Int) (h1:-9223372036854775808≤n) (h2:n<9223372036854775808):aM prog 139 [(.one (.int .i64 n):aF)] (.ret [zT n]):=by
 refine aD (args:=[.v none]) (ins:=[.v (.one (.int .i64 n))]) (hints:=(fun _=>none)) fo (by kernel_rfl) func139 ⟨rfl,trivial⟩ ?_;rw [Ys];dsimp only [List.map,In.env,aB,aA];refine vn bB rfl ?_;dsimp only [aB,aA];refine vs _ rfl (fun h1=>?_) (fun h1'=>?_)
 ·refine bC {g:Nat×List Nat // bv g.2+32768^g.2.length*g.1=n.natAbs∧DB 32768 g.2∧g.1≤9223372036854775808∧g.2.length≤5} (fun g=>[.one (.int .i64 (-(g.1.1:Int))), .rows (rB g.1.2)]) (fun g=>g.1.1) ⟨(n.natAbs,[]),by simp [bv,val],QR,by show n.natAbs≤_;omega,by simp⟩ ⟨aF.Sub.of_eq (congrArg (fun q=>aF.one (aH.int .i64 q)) (by show n = -((n.natAbs:Nat):Int);omega)),aF.Sub.same,trivial⟩ (fun _=>rfl) ?_;rintro ⟨⟨m,ds⟩,hv,hd,hm,hl⟩;dsimp only [aB,aA] at hv hd hm hl ⊢;refine vn gO rfl ?_;dsimp only [aB,aA];refine vs _ rfl (fun h4=>?_) (fun h4=>?_)
  ·have hm0:m≠0:=by omega
   have hl4:=II hm0 hv (by omega)
   have hd2:DB 32768 (m%32768::ds):=fun d hd'=>by
    rcases List.mem_cons.1 hd' with rfl | hd'
    ·omega
    ·exact hd d hd'
   refine vn (Cw (c:=-((m%32768:Nat):Int)) (by decide) neg_tmod) rfl ?_;dsimp only [aB,aA];refine vn bB rfl ?_;dsimp only [aB,aA];refine vs _ rfl (fun h7=>?_) (fun h7=>?_)
   ·refine vn (EP (by omega) (by omega)) rfl ?_;dsimp only [aB,aA];refine cL (us:=rB [m%32768]) (by show [[aH.int .i64 _]] = [[aH.int .i64 _]];congr 3;omega) ?_;dsimp only [aB,aA];refine uE (ts:=rB [m%32768]) (us:=rB ds) (vs:=rB (m%32768::ds)) rfl rfl rfl (by simp;omega) (by simp [maxLen];omega) ?_;dsimp only [aB,aA];refine vn (pY (c:=-((m/32768:Nat):Int)) (by decide) (by rw [neg_tdiv];exact dN (by omega) (by omega))) rfl ?_;dsimp only [aB,aA];exact aR rfl ⟨⟨(m/32768,m%32768::ds),zH hv,hd2,by show m/32768≤_;omega,by show ds.length+1≤5;omega⟩,aO.rfl,by show m/32768<m;omega⟩
   refine cL (us:=rB [m%32768]) (by show [[aH.int .i64 _]] = [[aH.int .i64 _]];congr 3;omega) ?_;dsimp only [aB,aA];refine uE (ts:=rB [m%32768]) (us:=rB ds) (vs:=rB (m%32768::ds)) rfl rfl rfl (by simp;omega) (by simp [maxLen];omega) ?_;dsimp only [aB,aA];refine vn (pY (c:=-((m/32768:Nat):Int)) (by decide) (by rw [neg_tdiv];exact dN (by omega) (by omega))) rfl ?_;dsimp only [aB,aA];exact aR rfl ⟨⟨(m/32768,m%32768::ds),zH hv,hd2,by show m/32768≤_;omega,by show ds.length+1≤5;omega⟩,aO.rfl,by show m/32768<m;omega⟩
  have hm0:m=0:=by omega
  subst hm0;rw [Nat.mul_zero,Nat.add_zero] at hv;refine aC (eV (-1) n ds hd (by omega) hv.symm (fun _=>Int.sign_eq_neg_one_of_neg h1)) rfl ?_;exact aL rfl
 refine bC {g:Nat×List Nat // bv g.2+32768^g.2.length*g.1=n.natAbs∧DB 32768 g.2∧g.1≤9223372036854775808∧g.2.length≤5∧g.1<9223372036854775808} (fun g=>[.one (.int .i64 (g.1.1:Int)), .rows (rB g.1.2)]) (fun g=>g.1.1) ⟨(n.natAbs,[]),by simp [bv,val],QR,by show n.natAbs≤_;omega,by simp,by show n.natAbs<_;omega⟩ ⟨aF.Sub.of_eq (congrArg (fun q=>aF.one (aH.int .i64 q)) (by show n=((n.natAbs:Nat):Int);omega)),aF.Sub.same,trivial⟩ (fun _=>rfl) ?_;rintro ⟨⟨m,ds⟩,hv,hd,hm,hl,hmm⟩;dsimp only [aB,aA] at hv hd hm hl hmm ⊢;refine vn gO rfl ?_;dsimp only [aB,aA];refine vs _ rfl (fun h21=>?_) (fun h21=>?_)
 ·have hm0:m≠0:=by omega
  have hl4:=II hm0 hv (by omega)
  have hd2:DB 32768 (m%32768::ds):=fun d hd'=>by
   rcases List.mem_cons.1 hd' with rfl | hd'
   ·omega
   ·exact hd d hd'
  refine vn (fL (by omega) (by omega)) rfl ?_;dsimp only [aB,aA];refine vn bB rfl ?_;dsimp only [aB,aA];refine vs _ rfl (fun h24=>?_) (fun h24=>?_)
  ·exfalso;omega
  refine cL (us:=rB [m%32768]) (by show [[aH.int .i64 _]] = [[aH.int .i64 _]];congr 3) ?_;dsimp only [aB,aA];refine uE (ts:=rB [m%32768]) (us:=rB ds) (vs:=rB (m%32768::ds)) rfl rfl rfl (by simp;omega) (by simp [maxLen];omega) ?_;dsimp only [aB,aA];refine vn (gM (by omega) (by omega) (by omega)) rfl ?_;dsimp only [aB,aA];exact aR rfl ⟨⟨(m/32768,m%32768::ds),zH hv,hd2,by show m/32768≤_;omega,by show ds.length+1≤5;omega,by show m/32768<_;omega⟩,aO.rfl,by show m/32768<m;omega⟩
 have hm0:m=0:=by omega
 subst hm0;rw [Nat.mul_zero,Nat.add_zero] at hv;refine aC (eV 1 n ds hd (by omega) hv.symm (fun h=>Int.sign_eq_one_of_pos (by omega))) rfl ?_;exact aL rfl
theorem Jp {xs ys:List Nat} (hx:DB 32768 xs) {i x y:Nat} (hl:xs.length=ys.length) (hi:xs[i]? = some x) (hj:ys[i]? = some y) (ht:xs.take i=ys.take i) (hxy:x<y):bv xs<bv ys:=by
 have e:∀ (zs:List Nat) (z:Nat),zs[i]? = some z→bv zs=bv (zs.take i)*32768^(zs.length-i)+(bv (zs.drop (i+1))+32768^(zs.length-(i+1))*z):=fun zs z hz=>by
  have hlt:i<zs.length:=(List.getElem?_eq_some_iff.1 hz).1
  conv=>lhs;rw [←List.take_append_drop i zs]
  rw [Oj,List.length_drop]
  congr 1
  rw [List.drop_eq_getElem_cons hlt,(List.getElem?_eq_some_iff.1 hz).2,AO,List.length_drop]
 rw [e xs x hi,e ys y hj,ht,hl];have h1:=Jh (hx.drop (i+1));rw [List.length_drop,hl] at h1;have h2:32768^(ys.length-(i+1))*(x+1)≤32768^(ys.length-(i+1))*y:=Nat.mul_le_mul_left _ hxy;rw [Nat.mul_add,Nat.mul_one] at h2;omega
theorem vF {a b:Nat} (h:(bd a).length<(bd b).length):a<b:=by
 rcases Nat.lt_or_ge a b with h1 | h1
 ·exact h1
 ·have:=dJ h1;omega
theorem qB (a b:Nat) (hs:(bd a).length+(bd b).length<1099511627776):aM prog 215 [(.one (bT a):aF),(.one (bT b):aF)] (.ret [.one (.int .i64 (eE a b))]):=by
 refine aD (args:=[.v none, .v none]) (ins:=[.v (.one (bT a)), .v (.one (bT b))]) (hints:=(fun _=>none)) fo (by kernel_rfl) func215 ⟨rfl,rfl,trivial⟩ ?_;rw [TB];dsimp only [List.map,In.env,aB,aA];refine vn (aP eI (List.length_map _)) rfl ?_;dsimp only [aB,aA];refine vn (aP eI (List.length_map _)) rfl ?_;dsimp only [aB,aA];refine vn gO rfl ?_;dsimp only [aB,aA];refine vs _ rfl (fun h3=>?_) (fun h3=>?_)
 ·refine vn (aP eI (List.length_map _)) rfl ?_;dsimp only [aB,aA];refine vn (aP eI (List.length_map _)) rfl ?_;dsimp only [aB,aA];refine vn bB rfl ?_;dsimp only [aB,aA];refine vs _ rfl (fun h7=>?_) (fun h7=>?_)
  ·rw [tP (by have:=vF (a:=a) (b:=b) (by omega);omega)];exact aL rfl
  rw [tS (by have:=vF (a:=b) (b:=a) (by omega);omega)];exact aL rfl
 have hlen:(bd a).length=(bd b).length:=by omega
 refine bC {i:Nat // i≤(bd a).length∧(bd a).take i=(bd b).take i} (fun g=>[.one (.int .i64 0), .one (.int .i64 g.1)]) (fun g=>(bd a).length-g.1) ⟨0,Nat.zero_le _,rfl⟩ aO.rfl (fun _=>rfl) ?_;rintro ⟨i,hi,ht⟩;dsimp only [aB,aA] at hi ht ⊢;refine vn (aP eI (List.length_map _)) rfl ?_;dsimp only [aB,aA];refine vn bB rfl ?_;dsimp only [aB,aA];refine vs _ rfl (fun h13=>?_) (fun h13=>?_)
 ·obtain ⟨x,hx⟩:∃ x,(bd a)[i]? = some x:=⟨_,List.getElem?_eq_getElem (by omega)⟩
  obtain ⟨y,hy⟩:∃ y,(bd b)[i]? = some y:=⟨_,List.getElem?_eq_getElem (by omega)⟩
  refine vn (aW eI (by omega) (by omega) hx) rfl ?_;dsimp only [aB,aA];refine vn (bF LK) rfl ?_;dsimp only [aB,aA];refine vn (aW eI (by omega) (by omega) hy) rfl ?_;dsimp only [aB,aA];refine vn (bF LK) rfl ?_;dsimp only [aB,aA];refine vn bB rfl ?_;dsimp only [aB,aA];refine vs _ rfl (fun h19=>?_) (fun h19=>?_)
  ·have:=Jp (fW a) hlen hx hy ht (by omega);rw [dZ,dZ] at this;rw [tP (by omega)];exact aL rfl
  refine vn (aW eI (by omega) (by omega) hx) rfl ?_;dsimp only [aB,aA];refine vn (bF LK) rfl ?_;dsimp only [aB,aA];refine vn (aW eI (by omega) (by omega) hy) rfl ?_;dsimp only [aB,aA];refine vn (bF LK) rfl ?_;dsimp only [aB,aA];refine vn dB rfl ?_;dsimp only [aB,aA];refine vs _ rfl (fun h26=>?_) (fun h26=>?_)
  ·have:=Jp (fW b) hlen.symm hy hx ht.symm (by omega);rw [dZ,dZ] at this;rw [tS (by omega)];exact aL rfl
  refine vn (aE (by omega) (by omega)) rfl ?_;dsimp only [aB,aA];exact aR rfl ⟨⟨i+1,by omega,by rw [take_succ hx,take_succ hy,ht,show x=y by omega]⟩,aO.rfl,by show (bd a).length-(i+1)<(bd a).length-i;omega⟩
 have hie:i=(bd a).length:=by omega
 subst hie
 have e:bd a=bd b:=by
  rw [List.take_length,List.take_of_length_le (by omega)] at ht;exact ht
 have:a=b:=by rw [←dZ a,e,dZ]
 rw [this,AM];exact aL rfl
theorem Cl (n i:Nat) (hi:i<4611686018427387904) (hs:(bd n).length<1099511627776):aM prog 263 [(.one (bT n):aF),(.one (.int .i64 i):aF)] (.ret [.one (.int .i64 ((n/32768^i%32768:Nat):Int))]):=by
 refine aD (args:=[.v none, .v none]) (ins:=[.v (.one (bT n)), .v (.one (.int .i64 i))]) (hints:=(fun _=>none)) fo (by kernel_rfl) func263 ⟨rfl,rfl,trivial⟩ ?_;rw [SA];dsimp only [List.map,In.env,aB,aA];have hdg:=Ii n i;refine vn (aP eI (List.length_map _)) rfl ?_;dsimp only [aB,aA];refine vn eH rfl ?_;dsimp only [aB,aA];refine vs _ rfl (fun h2=>?_) (fun h2=>?_)
 ·rw [List.getElem?_eq_none_iff.2 (by rw [List.length_reverse];omega)] at hdg;rw [←hdg];exact aL rfl
 refine vn (aP eI (List.length_map _)) rfl ?_;dsimp only [aB,aA];refine vn (aG (by omega) (by omega)) rfl ?_;dsimp only [aB,aA];refine vn (aG (by omega) (by omega)) rfl ?_;dsimp only [aB,aA];obtain ⟨d,hd⟩:∃ d,(bd n).reverse[i]? = some d:=⟨_,List.getElem?_eq_getElem (by rw [List.length_reverse];omega)⟩
 have hd2:(bd n)[(bd n).length-1-i]? = some d:=by rw [AH (by omega)];exact hd
 rw [hd] at hdg;refine vn (aW eI (by omega) (by omega) hd2) rfl ?_;dsimp only [aB,aA];refine vn (bF LK) rfl ?_;dsimp only [aB,aA];rw [←hdg];exact aL rfl
theorem Kg (a b:Nat):aM prog 262 [(.one (bT a):aF),(.one (bT b):aF)] (.ret [.one (.int .i64 ((max (bd a).length (bd b).length:Nat):Int))]):=by
 refine aD (args:=[.v none, .v none]) (ins:=[.v (.one (bT a)), .v (.one (bT b))]) (hints:=(fun _=>none)) fo (by kernel_rfl) func262 ⟨rfl,rfl,trivial⟩ ?_;rw [Ke];dsimp only [List.map,In.env,aB,aA];refine vn (aP eI (List.length_map _)) rfl ?_;dsimp only [aB,aA];refine vn (aP eI (List.length_map _)) rfl ?_;dsimp only [aB,aA];refine vn dB rfl ?_;dsimp only [aB,aA];refine vs _ rfl (fun h3=>?_) (fun h3=>?_)
 ·refine vn (aP eI (List.length_map _)) rfl ?_;dsimp only [aB,aA];refine aL ?_;show [aF.one (aH.int .i64 _)] = [aF.one (aH.int .i64 _)]
  congr 3;omega
 refine vn (aP eI (List.length_map _)) rfl ?_;dsimp only [aB,aA];refine aL ?_;show [aF.one (aH.int .i64 _)] = [aF.one (aH.int .i64 _)]
 congr 3;omega
theorem val_rev (n:Nat):val 32768 (bd n).reverse=n:=dZ n
theorem IB (n i:Nat):(bd n).reverse[i]?.getD 0=n/32768^i%32768:=Ii n i
set_option maxHeartbeats 1000000 in
theorem kC (a b r:Nat) (k:Int) (hk:k=1∨k = -1) (hr:(r:Int)=a+k*b) (hs:(bd a).length<274877906944) (hs2:(bd b).length<274877906944):aM prog 214 [(.one (bT a):aF),(.one (bT b):aF),(.one (.int .i64 k):aF)] (.ret [.one (bT r)]):=by
 refine aD (args:=[.v none, .v none, .v none]) (ins:=[.v (.one (bT a)), .v (.one (bT b)), .v (.one (.int .i64 k))]) (hints:=(fun _=>none)) fo (by kernel_rfl) func214 ⟨rfl,rfl,rfl,trivial⟩ ?_;rw [YG];dsimp only [List.map,In.env,aB,aA];obtain ⟨n,hn⟩:∃ n,max (bd a).length (bd b).length+1=n:=⟨_,rfl⟩
 have hrl:r<32768^n:=by
  have h1:=Dc a;have h2:=Dc b;have h3:32768^(bd a).length≤32768^(n-1):=Nat.pow_le_pow_right (by omega) (by omega);have h4:32768^(bd b).length≤32768^(n-1):=Nat.pow_le_pow_right (by omega) (by omega);have h5:32768^n=32768^(n-1)*32768:=by rw [←Nat.pow_succ];congr 1;omega
  rcases hk with rfl | rfl<;>omega
 refine aC (Kg a b) rfl ?_;dsimp only [aB,aA];refine vn (aE (by omega) (by omega)) rfl ?_;dsimp only [aB,aA];refine CZ (n:=n) (f:=fun d:Nat=>[aH.int .i64 (d:Int)]) 0 rfl rfl (by omega) rfl (by omega) (by simp only [maxLen];omega) ?_;dsimp only [aB,aA];refine bC {g:Nat×Int×List Nat // El 32768 (bd a).reverse (bd b).reverse n k g.1 g.2.1 g.2.2} (fun g=>[.one (.int .i64 g.1.2.1), .one (.int .i64 g.1.1), .rows (rB g.1.2.2.reverse)]) (fun g=>n-g.1.1) ⟨(0,0,List.replicate n 0),El.init (by omega) _ _ _ _⟩ ⟨aF.Sub.same,aF.Sub.same,aF.Sub.of_eq (by rw [List.reverse_replicate];rfl),trivial⟩ (fun _=>rfl) ?_;rintro ⟨⟨i,c,os⟩,hI⟩;dsimp only [aB,aA] at hI ⊢;have hil:=hI.le;have hol:=hI.len;have hc0:=hI.c0;have hc1:=hI.c1;refine vn bB rfl ?_;dsimp only [aB,aA];refine vs _ rfl (fun h5=>?_) (fun h5=>?_)
 ·obtain ⟨x,hx⟩:∃ x,a/32768^i%32768=x:=⟨_,rfl⟩
  obtain ⟨y,hy⟩:∃ y,b/32768^i%32768=y:=⟨_,rfl⟩
  have hxB:x<32768:=by rw [←hx];exact Nat.mod_lt _ (by omega)
  have hyB:y<32768:=by rw [←hy];exact Nat.mod_lt _ (by omega)
  have hcall1:=Cl a i (by omega) (by omega);have hcall2:=Cl b i (by omega) (by omega);rw [hx] at hcall1;rw [hy] at hcall2
  have hnext:∀ (z:Nat) (c':Int),z<32768 → -1≤c'→c'≤1→(z:Int)+32768*c'=x+k*y+c→El 32768 (bd a).reverse (bd b).reverse n k (i+1) c' (os.set i z):=fun z c' h1 h2 h3 h4=>
   hI.next (by omega) (by rw [IB,hx]) (by rw [IB,hy]) h2 h3 h1 h4
  have hst:∀ z,os.reverse.set (n-1-i) z=(os.set i z).reverse:=fun z=>by rw [←hol];exact FT (by omega)
  obtain ⟨o0,hgo⟩:∃ o0,os.reverse[n-1-i]? = some o0:=⟨_,List.getElem?_eq_getElem (by rw [List.length_reverse];omega)⟩
  have hky:k*y=y∨k*y = -(y:Int):=by rcases hk with rfl | rfl<;>simp
  generalize hkyv:k*(y:Int)=ky at hnext hky;refine aC hcall1 rfl ?_;dsimp only [aB,aA];refine aC hcall2 rfl ?_;dsimp only [aB,aA];refine vn (rY (c:=ky) (by rw [hkyv];exact dN (by omega) (by omega))) rfl ?_;dsimp only [aB,aA];refine vn (aE (by omega) (by omega)) rfl ?_;dsimp only [aB,aA];refine vn (aE (by omega) (by omega)) rfl ?_;dsimp only [aB,aA];refine vn bB rfl ?_;dsimp only [aB,aA];refine vs _ rfl (fun h12=>?_) (fun h12=>?_)
  ·refine vn (aE (by omega) (by omega)) rfl ?_;dsimp only [aB,aA];refine vn eH rfl ?_;dsimp only [aB,aA];refine vs _ rfl (fun h15=>?_) (fun h15=>?_)
   ·exfalso;omega
   refine vn (aG (by omega) (by omega)) rfl ?_;dsimp only [aB,aA];refine vn (aG (by omega) (by omega)) rfl ?_;dsimp only [aB,aA];refine cV rfl rfl (by omega) (by rw [List.length_reverse];omega) ?_;refine lR (d':=(x+ky+c+32768).toNat) rfl rfl (by omega) (by omega) hgo (by show [aH.int .i64 _] = [aH.int .i64 _];congr 2;omega) ?_;rw [hst];dsimp only [aB,aA];refine vn (aE (by omega) (by omega)) rfl ?_;dsimp only [aB,aA];exact aR rfl ⟨⟨(i+1,-1,os.set i (x+ky+c+32768).toNat),hnext _ (-1) (by omega) (by omega) (by omega) (by omega)⟩,aO.rfl,by show n-(i+1)<n-i;omega⟩
  refine vn eH rfl ?_;dsimp only [aB,aA];refine vs _ rfl (fun h30=>?_) (fun h30=>?_)
  ·refine vn (aG (by omega) (by omega)) rfl ?_;dsimp only [aB,aA];refine vn (aG (by omega) (by omega)) rfl ?_;dsimp only [aB,aA];refine vn (aG (by omega) (by omega)) rfl ?_;dsimp only [aB,aA];refine cV rfl rfl (by omega) (by rw [List.length_reverse];omega) ?_;refine lR (d':=(x+ky+c-32768).toNat) rfl rfl (by omega) (by omega) hgo (by show [aH.int .i64 _] = [aH.int .i64 _];congr 2;omega) ?_;rw [hst];dsimp only [aB,aA];refine vn (aE (by omega) (by omega)) rfl ?_;dsimp only [aB,aA];exact aR rfl ⟨⟨(i+1,1,os.set i (x+ky+c-32768).toNat),hnext _ 1 (by omega) (by omega) (by omega) (by omega)⟩,aO.rfl,by show n-(i+1)<n-i;omega⟩
  refine vn (aG (by omega) (by omega)) rfl ?_;dsimp only [aB,aA];refine vn (aG (by omega) (by omega)) rfl ?_;dsimp only [aB,aA];refine cV rfl rfl (by omega) (by rw [List.length_reverse];omega) ?_;refine lR (d':=(x+ky+c).toNat) rfl rfl (by omega) (by omega) hgo (by show [aH.int .i64 _] = [aH.int .i64 _];congr 2;omega) ?_;rw [hst];dsimp only [aB,aA];refine vn (aE (by omega) (by omega)) rfl ?_;dsimp only [aB,aA];exact aR rfl ⟨⟨(i+1,0,os.set i (x+ky+c).toNat),hnext _ 0 (by omega) (by omega) (by omega) (by omega)⟩,aO.rfl,by show n-(i+1)<n-i;omega⟩
 have hie:i=n:=by omega
 subst hie;have hf:=hI.fin (by omega) (by rw [List.length_reverse];omega) (by rw [List.length_reverse];omega) (r:=r) (by rw [val_rev,val_rev];exact hr) hrl;refine aC (tG os.reverse hI.dg.rev (by rw [List.length_reverse];omega)) rfl ?_;dsimp only [aB,aA];refine aL ?_;rw [←hf,bv,List.reverse_reverse];rfl
open Go Go.Proofs Tryz Ord
theorem AG (z:Int):-1≤z.sign∧z.sign≤1:=by rcases bW z with ⟨_,e⟩ | ⟨_,e⟩ | ⟨_,e⟩<;>omega
theorem AQ (z:Int):aM prog 183 [(zT z:aF)] (.ret [zT (-z)]):=by
 refine aD (args:=[.v (some 2)]) (ins:=[.v (zT z)]) (hints:=(fun _=>none)) fo (by kernel_rfl) func183 ⟨rfl,trivial⟩ ?_;rw [XC];dsimp only [List.map,In.env,aB,aA];have:=AG z;refine vn (EP (by omega) (by omega)) rfl ?_;dsimp only [aB,aA];refine aL ?_;show [aF.agg [.int .i64 (-z.sign),bT z.natAbs]] = [zT (-z)];rw [zT,zC,Int.sign_neg,Int.natAbs_neg]
theorem Vf (z:Int):aM prog 148 [(zT z:aF)] (.ret [zT (z.natAbs:Int)]):=by
 refine aD (args:=[.v (some 2)]) (ins:=[.v (zT z)]) (hints:=(fun _=>none)) fo (by kernel_rfl) func148 ⟨rfl,trivial⟩ ?_;rw [Wp];dsimp only [List.map,In.env,aB,aA]
 refine vn (rY (c:=((z.natAbs:Nat):Int).sign) (by
  rcases bW z with ⟨h,e⟩ | ⟨h,e⟩ | ⟨h,e⟩<;>rw [e]
  ·rw [Int.sign_eq_one_of_pos (by omega)];exact dN (by omega) (by omega)
  ·rw [h];exact dN (by omega) (by omega)
  ·rw [Int.sign_eq_one_of_pos (by omega)];exact dN (by omega) (by omega))) rfl ?_
 exact aL rfl
theorem ab0 {a b:Nat}:(bd (a+b)).length≤max (bd a).length (bd b).length+1:=by
 apply iP;have h1:=Dc a;have h2:=Dc b;have h3:32768^(bd a).length≤32768^(max (bd a).length (bd b).length):=Nat.pow_le_pow_right (by omega) (by omega);have h4:32768^(bd b).length≤32768^(max (bd a).length (bd b).length):=Nat.pow_le_pow_right (by omega) (by omega);rw [Nat.pow_succ];omega
theorem Mb (x y:Int) (hx:(bd x.natAbs).length<137438953472) (hy:(bd y.natAbs).length<137438953472):aM prog 138 [(zT x:aF),(zT y:aF)] (.ret [zT (x+y)]):=by
 refine aD (args:=[.v (some 2), .v (some 2)]) (ins:=[.v (zT x), .v (zT y)]) (hints:=(fun _=>none)) fo (by kernel_rfl) func138 ⟨rfl,rfl,trivial⟩ ?_;rw [Xz];dsimp only [List.map,In.env,aB,aA];have hx0:=bW x;have hy0:=bW y
 have hl:∀ n,n≤x.natAbs+y.natAbs→(bd n).length<274877906944:=fun n hn=>by
  have h1:=dJ hn;have h2:=ab0 (a:=x.natAbs) (b:=y.natAbs);omega
 refine vn bL rfl ?_;dsimp only [aB,aA];refine vs _ rfl (fun h1=>?_) (fun h1=>?_)
 ·rw [show x=0 by omega,Int.zero_add];exact aL rfl
 refine vn bL rfl ?_;dsimp only [aB,aA];refine vs _ rfl (fun h4=>?_) (fun h4=>?_)
 ·rw [show y=0 by omega,Int.add_zero];exact aL rfl
 refine vn bL rfl ?_;dsimp only [aB,aA];refine vs _ rfl (fun h7=>?_) (fun h7=>?_)
 ·refine aC (kC x.natAbs y.natAbs (x.natAbs+y.natAbs) 1 (.inl rfl) (by omega) (by omega) (by omega)) rfl ?_;dsimp only [aB,aA]
  refine aC (eV x.sign (x+y) _ (fW _) (by have:=hl _ (Nat.le_refl _);omega) (by rw [dZ];omega) (fun _=>by
   rcases hx0 with ⟨h,e⟩ | ⟨h,e⟩ | ⟨h,e⟩
   ·rw [e];exact Int.sign_eq_neg_one_of_neg (by omega)
   ·omega
   ·rw [e];exact Int.sign_eq_one_of_pos (by omega))) rfl ?_
  exact aL rfl
 refine aC (qB x.natAbs y.natAbs (by omega)) rfl ?_;dsimp only [aB,aA];refine vn eH rfl ?_;dsimp only [aB,aA]
 have hci:(0≤eE (x.natAbs:Int) (y.natAbs:Int))↔y.natAbs≤x.natAbs:=by
  have:=sO (a:=(x.natAbs:Int)) (b:=(y.natAbs:Int));omega
 refine vs _ rfl (fun h13=>?_) (fun h13=>?_)
 ·refine aC (kC x.natAbs y.natAbs (x.natAbs-y.natAbs) (-1) (.inr rfl) (by omega) (by omega) (by omega)) rfl ?_;dsimp only [aB,aA]
  refine aC (eV x.sign (x+y) _ (fW _) (by have:=hl (x.natAbs-y.natAbs) (by omega);omega) (by rw [dZ];omega) (fun hne=>by
   rw [dZ] at hne;rcases hx0 with ⟨h,e⟩ | ⟨h,e⟩ | ⟨h,e⟩
   ·rw [e];exact Int.sign_eq_neg_one_of_neg (by omega)
   ·omega
   ·rw [e];exact Int.sign_eq_one_of_pos (by omega))) rfl ?_
  exact aL rfl
 refine aC (kC y.natAbs x.natAbs (y.natAbs-x.natAbs) (-1) (.inr rfl) (by omega) (by omega) (by omega)) rfl ?_;dsimp only [aB,aA]
 refine aC (eV y.sign (x+y) _ (fW _) (by have:=hl (y.natAbs-x.natAbs) (by omega);omega) (by rw [dZ];omega) (fun hne=>by
  rw [dZ] at hne;rcases hy0 with ⟨h,e⟩ | ⟨h,e⟩ | ⟨h,e⟩
  ·rw [e];exact Int.sign_eq_neg_one_of_neg (by omega)
  ·omega
  ·rw [e];exact Int.sign_eq_one_of_pos (by omega))) rfl ?_
 exact aL rfl
theorem GN (x y:Int) (hx:(bd x.natAbs).length<137438953472) (hy:(bd y.natAbs).length<137438953472):aM prog 210 [(zT x:aF),(zT y:aF)] (.ret [zT (x-y)]):=by
 refine aD (args:=[.v (some 2), .v (some 2)]) (ins:=[.v (zT x), .v (zT y)]) (hints:=(fun _=>none)) fo (by kernel_rfl) func210 ⟨rfl,rfl,trivial⟩ ?_;rw [Yi];dsimp only [List.map,In.env,aB,aA];refine aC (AQ y) rfl ?_;dsimp only [aB,aA];refine aC (Mb x (-y) hx (by rw [Int.natAbs_neg];exact hy)) rfl ?_;rw [←Int.sub_eq_add_neg];exact aL rfl
theorem Rf (x y:Int):(x-y).sign=eE x y:=by
 unfold eE;rcases bW (x-y) with ⟨h,e⟩ | ⟨h,e⟩ | ⟨h,e⟩<;>rw [e]
 ·rw [if_pos (by omega)]
 ·rw [if_neg (by omega),if_neg (by omega)]
 ·rw [if_neg (by omega),if_pos (by omega)]
theorem Vz (x y:Int) (hx:(bd x.natAbs).length<137438953472) (hy:(bd y.natAbs).length<137438953472):aM prog 134 [(zT x:aF),(zT y:aF)] (.ret [.one (.int .i64 (eE x y))]):=by
 refine aD (args:=[.v (some 2), .v (some 2)]) (ins:=[.v (zT x), .v (zT y)]) (hints:=(fun _=>none)) fo (by kernel_rfl) func134 ⟨rfl,rfl,trivial⟩ ?_;rw [Ur];dsimp only [List.map,In.env,aB,aA];refine aC (GN x y hx hy) rfl ?_;dsimp only [aB,aA];rw [←Rf];exact aL rfl
theorem MG {n la i:Nat} (h:la=(bd n).length) (hi:i<la):∃ d,(bd n)[la-1-i]? = some d∧(bd n).reverse[i]? = some d∧d<32768:=by
 subst h;have hd:(bd n).reverse[i]? = some ((bd n).reverse[i]'(by rw [List.length_reverse];exact hi)):=List.getElem?_eq_getElem _;exact ⟨_,by rw [AH hi];exact hd,hd,(fW n).rev.get hd⟩
set_option maxHeartbeats 2000000 in
theorem gI (x y:Int) (hs:(bd x.natAbs).length+(bd y.natAbs).length<274877906944):aM prog 135 [(zT x:aF),(zT y:aF)] (.ret [zT (x*y)]):=by
 refine aD (args:=[.v (some 2), .v (some 2)]) (ins:=[.v (zT x), .v (zT y)]) (hints:=(fun _=>none)) fo (by kernel_rfl) func135 ⟨rfl,rfl,trivial⟩ ?_;rw [Yo];dsimp only [List.map,In.env,aB,aA];obtain ⟨la,hla⟩:∃ n,(bd x.natAbs).length=n:=⟨_,rfl⟩
 obtain ⟨lb,hlb⟩:∃ n,(bd y.natAbs).length=n:=⟨_,rfl⟩
 have hra:(bd x.natAbs).reverse.length=la:=by rw [List.length_reverse,hla]
 have hrb:(bd y.natAbs).reverse.length=lb:=by rw [List.length_reverse,hlb]
 have hsx:=AG x;have hsy:=AG y;refine vn (aP eI (List.length_map _)) rfl ?_;dsimp only [aB,aA];refine vn (aP eI (List.length_map _)) rfl ?_;dsimp only [aB,aA];refine vn (aE (by omega) (by omega)) rfl ?_;dsimp only [aB,aA];rw [hla,hlb];refine CZ (n:=la+lb) (f:=fun d:Nat=>[aH.int .i64 (d:Int)]) 0 rfl rfl (by omega) rfl (by omega) (by simp only [maxLen];omega) ?_;dsimp only [aB,aA];refine vn (aP eI (List.length_map _)) rfl ?_;dsimp only [aB,aA];refine vn (aG (by omega) (by omega)) rfl ?_;dsimp only [aB,aA];rw [hla];refine bC {g:Nat×List Nat // Ez 32768 (bd x.natAbs).reverse (bd y.natAbs).reverse g.1 g.2} (fun g=>[.one (.int .i64 ((la:Int)-1-g.1.1)), .rows (rB g.1.2.reverse)]) (fun g=>la-g.1.1) ⟨(0,List.replicate (la+lb) 0),by have:=Ez.init (B:=32768) (by omega) (bd x.natAbs).reverse (bd y.natAbs).reverse;rw [hra,hrb] at this;exact this⟩ ⟨aF.Sub.of_eq (congrArg (fun q=>aF.one (aH.int .i64 q)) (by show (la:Int)-1=(la:Int)-1-((0:Nat):Int);omega)),aF.Sub.of_eq (by rw [List.reverse_replicate];rfl),trivial⟩ (fun _=>rfl) ?_;rintro ⟨⟨i,os⟩,hO⟩;dsimp only [aB,aA] at hO ⊢;have hil:=hO.le;rw [hra] at hil;refine vn eH rfl ?_;dsimp only [aB,aA];refine vs _ rfl (fun h8=>?_) (fun h8=>?_)
 ·refine vn (aP eI (List.length_map _)) rfl ?_;obtain ⟨d,hd1,hd2,hd3⟩:=MG (n:=x.natAbs) (la:=la) (i:=i) hla.symm (by omega);dsimp only [aB,aA];refine vn (aG (by omega) (by omega)) rfl ?_;dsimp only [aB,aA];rw [hlb];refine bC {g:Nat×Nat×List Nat // BIn 32768 (bd x.natAbs).reverse (bd y.natAbs).reverse i d (val 32768 ((bd x.natAbs).reverse.take i)*val 32768 (bd y.natAbs).reverse) g.1 g.2.1 g.2.2} (fun g=>[.one (.int .i64 g.1.2.1), .one (.int .i64 ((lb:Int)-1-g.1.1)), .rows (rB g.1.2.2.reverse)]) (fun g=>lb-g.1.1) ⟨(0,0,os),hO.inn (by omega)⟩ ⟨aF.Sub.same,aF.Sub.of_eq (congrArg (fun q=>aF.one (aH.int .i64 q)) (by show (lb:Int)-1=(lb:Int)-1-((0:Nat):Int);omega)),aF.Sub.same,trivial⟩ (fun _=>rfl) ?_;rintro ⟨⟨k,c,os2⟩,hI⟩;dsimp only [aB,aA] at hI ⊢;have hkl:=hI.le;have hol:=hI.len;have hc1:=hI.c1;rw [hrb] at hkl;rw [hra,hrb] at hol;refine vn eH rfl ?_;dsimp only [aB,aA];refine vs _ rfl (fun h13=>?_) (fun h13=>?_)
  ·refine vn (aE (by omega) (by omega)) rfl ?_;dsimp only [aB,aA];refine vn (aE (by omega) (by omega)) rfl ?_;dsimp only [aB,aA];obtain ⟨e,he1,he2,he3⟩:=MG (n:=y.natAbs) (la:=lb) (i:=k) hlb.symm (by omega);obtain ⟨o,ho2⟩:∃ o,os2[i+k]? = some o:=⟨_,List.getElem?_eq_getElem (by omega)⟩
   have ho1:os2.reverse[la+lb-1-(i+k)]? = some o:=by
    have:=AH (ds:=os2.reverse) (i:=i+k) (by rw [List.length_reverse];omega);rw [List.reverse_reverse,List.length_reverse,hol] at this;rw [this];exact ho2
   have hoB:=hI.dg.get ho2;have hde:d*e≤32767*32767:=Nat.mul_le_mul (by omega) (by omega);have hst:∀ z,os2.reverse.set (la+lb-1-(i+k)) z=(os2.set (i+k) z).reverse:=fun z=>by rw [←hol];exact FT (by omega)
   obtain ⟨w,hw⟩:∃ w,c+(d*e+o)=w:=⟨_,rfl⟩
   have hN:=hI.next (z:=w%32768) (c':=w/32768) (by rw [hrb];omega) he2 ho2 (by omega) (by omega) (by omega);refine cV rfl rfl (by omega) (by rw [List.length_reverse];omega) ?_;refine pQ rfl rfl (by omega) (by omega) ho1 rfl ?_;dsimp only [aB,aA];refine vn (aW eI (by omega) (by omega) hd1) rfl ?_;dsimp only [aB,aA];refine vn (bF LK) rfl ?_;dsimp only [aB,aA];refine vn (aW eI (by omega) (by omega) he1) rfl ?_;dsimp only [aB,aA];refine vn (bF LK) rfl ?_;dsimp only [aB,aA];refine vn (rY (c:=((d*e:Nat):Int)) (by rw [←Int.natCast_mul];exact dN (by omega) (by omega))) rfl ?_;dsimp only [aB,aA];refine vn (aE (by omega) (by omega)) rfl ?_;dsimp only [aB,aA];refine vn (dW (c:=(w:Int)) (by rw [show (o:Int)+((d*e:Nat):Int)+(c:Int)=(w:Int) by omega];exact dN (by omega) (by omega))) rfl ?_;dsimp only [aB,aA];refine vn (aE (by omega) (by omega)) rfl ?_;dsimp only [aB,aA];refine vn (aE (by omega) (by omega)) rfl ?_;dsimp only [aB,aA];refine vn (fL (by omega) (by omega)) rfl ?_;dsimp only [aB,aA];refine cV rfl rfl (by omega) (by rw [List.length_reverse];omega) ?_;refine lR (d':=w%32768) rfl rfl (by omega) (by omega) ho1 rfl ?_;rw [hst];dsimp only [aB,aA];refine vn (gM (by omega) (by omega) (by omega)) rfl ?_;dsimp only [aB,aA];refine vn (aG (by omega) (by omega)) rfl ?_;dsimp only [aB,aA];exact aR rfl ⟨⟨(k+1,w/32768,os2.set (i+k) (w%32768)),hN⟩,⟨aF.Sub.same,aF.Sub.of_eq (congrArg (fun q=>aF.one (aH.int .i64 q)) (by show (lb:Int)-1-(k:Int)-1=(lb:Int)-1-((k+1:Nat):Int);omega)),aF.Sub.same,trivial⟩,by show lb-(k+1)<lb-k;omega⟩
  have hke:k=lb:=by omega
  subst hke;obtain ⟨o,ho2⟩:∃ o,os2[i+k]? = some o:=⟨_,List.getElem?_eq_getElem (by omega)⟩
  have ho1:os2.reverse[la+k-1-(i+k)]? = some o:=by
   have:=AH (ds:=os2.reverse) (i:=i+k) (by rw [List.length_reverse];omega);rw [List.reverse_reverse,List.length_reverse,hol] at this;rw [this];exact ho2
  have hst:∀ z,os2.reverse.set (la+k-1-(i+k)) z=(os2.set (i+k) z).reverse:=fun z=>by rw [←hol];exact FT (by omega)
  have hN:Ez 32768 (bd x.natAbs).reverse (bd y.natAbs).reverse (i+1) (os2.set (i+k) c):=by
   have:=hI;rw [←hrb] at this ⊢;exact this.out hd2
  refine cV rfl rfl (by omega) (by rw [List.length_reverse];omega) ?_;refine lR (d':=c) rfl rfl (by omega) (by omega) ho1 rfl ?_;rw [hst];dsimp only [aB,aA];refine vn (aG (by omega) (by omega)) rfl ?_;dsimp only [aB,aA];exact aR rfl ⟨⟨(i+1,os2.set (i+k) c),hN⟩,⟨aF.Sub.of_eq (congrArg (fun q=>aF.one (aH.int .i64 q)) (by show (la:Int)-1-(i:Int)-1=(la:Int)-1-((i+1:Nat):Int);omega)),aF.Sub.same,trivial⟩,by show la-(i+1)<la-i;omega⟩
 have hie:i=la:=by omega
 subst hie
 have hf:val 32768 os=x.natAbs*y.natAbs:=by
  have:=hO;rw [←hra] at this;have:=this.fin;rw [val_rev,val_rev] at this;exact this
 have hol:=hO.len;rw [hra,hrb] at hol;have hmul:x.sign*y.sign=(x*y).sign:=(Int.sign_mul x y).symm;have hsb:=AG (x*y);refine vn (rY (c:=(x*y).sign) (by rw [hmul];exact dN (by omega) (by omega))) rfl ?_;dsimp only [aB,aA];refine aC (eV (x*y).sign (x*y) os.reverse hO.dg.rev (by rw [List.length_reverse];omega) (by rw [bv,List.reverse_reverse,hf,Int.natAbs_mul]) (fun _=>rfl)) rfl ?_;exact aL rfl
end Go.Sy
