/- The reference's integers: digits to the base 2^15, the highest first. The reference's integers: the operations.
-/
import Derived.Test.YtdmcadckdnnglaaGreatDoorNc
import Derived.Test.YtdmcadckdnnglaaGreatDoorPa
set_option linter.unusedVariables false
set_option linter.unusedSimpArgs false
namespace Go.Sy
open Go Go.Proofs Tryz Ord
def OL:Tr:=.ret [(W 1 0)]
def aw6:Tr:=.split (.u 3 0) (.need (.prim [(W 1 0),(WK 0)] none) (.indexAddr 45 (tT 7) (.const (I3 0))) 0 false (dP 4 0 none 3 8 (aQ .eql 3 9 0 5 0 4 (.split (.u 6 0) (.need (.prim [(W 1 0),(WK 1)] none) (.slice 45 (tT 12) (some (.const (I3 1))) none none) 45 false (.back 0 [lV 7 0])) OL)))) OL
def aJ2:Tr:=.loop 0 [lV 0 0] (cM 1 0 3 45 (aQ .gtr 3 4 0 2 0 4 aw6))
theorem So:aN prog f260 (fun _=>none) [.v none] = aJ2:=by kernel_rfl
def ax8:Tr:=aJ 260 [(W 1 0)] [none] [5] [45] 45 true (cM 2 0 7 45 (aQ .eql 3 8 0 3 0 4 (.split (.u 4 0) (.ret [(.agg [(tE (.int .i64 0)),tN])]) (.ret [(.agg [(U 0 0),(U 2 0)])]))))
theorem Tl:aN prog f211 (fun _=>none) [.v none, .v none] = ax8:=by kernel_rfl
def aH1:Tr:=aQ .lss 3 12 0 5 0 4 (.split (.u 6 0) (.need (.prim [(W 5 0)] none) (.unOp .neg 3 (tT 14)) 3 false (.need (.lit 1 [[(.u 7 0)]]) (.buildSlice 45 1 #[(0,(tT 16))]) 45 false (.need (.app 1 8 (some 8) none (some 3)) (.call ⟨.builtin .append,#[(tT 17),(tT 18)],#[45,45]⟩) 45 false (aQ .quo 2 20 32768 2 0 2 (.back 0 [lV 10 0, .row 9]))))) (.need (.lit 1 [[(.u 5 0)]]) (.buildSlice 45 1 #[(0,(tT 16))]) 45 false (.need (.app 1 8 (some 7) none (some 3)) (.call ⟨.builtin .append,#[(tT 17),(tT 18)],#[45,45]⟩) 45 false (aQ .quo 2 20 32768 2 0 2 (.back 0 [lV 9 0, .row 8])))))
def XJ:Tr:=aQ .rem 2 10 32768 2 0 2 aH1
def Pk:Tr:=.ret [(G2 5)]
def as7:Tr:=aQ .lss 2 6 0 0 0 4 (.split (.u 1 0) (.loop 0 [lV 0 0, .nilrow] (aQ .neq 2 8 0 2 0 4 (.split (.u 4 0) XJ (aJ 211 [(WK (-1)),(.one (.c (.sr 1 3)))] [(some 2)] [22,23] [3,45] 47 true Pk)))) (.loop 0 [lV 0 0, .nilrow] (aQ .neq 2 8 0 2 0 4 (.split (.u 4 0) XJ (aJ 211 [(WK 1),(.one (.c (.sr 1 3)))] [(some 2)] [22,23] [3,45] 47 true Pk)))))
theorem UO:aN prog f139 (fun _=>none) [.v none] = as7:=by kernel_rfl
def XO:Tr:=.ret [(WK (-1))]
def XF:Tr:=.ret [(WK 1)]
def ao9:Tr:=dP 14 0 none 3 33 (eU 1 0 6 0 45 35 36 (dP 16 0 none 3 37 (bK .gtr 3 34 38 15 0 17 0 4 (.split (.u 18 0) XF (aQ .add 3 20 1 6 0 3 (.back 0 [lV 5 0,lV 19 0]))))))
def ai2:Tr:=eU 0 0 6 0 45 22 23 (dP 9 0 none 3 24 (eU 1 0 6 0 45 26 27 (dP 11 0 none 3 28 (bK .lss 3 25 29 10 0 12 0 4 (.split (.u 13 0) XO (eU 0 0 6 0 45 31 32 ao9))))))
def Nw:Tr:=.ret [(WK 0)]
def ar0:Tr:=cM 1 0 8 45 (bK .neq 3 7 9 2 0 3 0 4 (.split (.u 4 0) (cM 0 0 11 45 (cM 1 0 13 45 (bK .lss 3 12 14 5 0 6 0 4 (.split (.u 7 0) XO XF)))) (.loop 0 [lK 0,lK 0] (cM 0 0 17 45 (bK .lss 3 16 18 6 0 7 0 4 (.split (.u 8 0) ai2 Nw))))))
def ap8:Tr:=cM 0 0 6 45 ar0
theorem Ra:aN prog f215 (fun _=>none) [.v none, .v none] = ap8:=by kernel_rfl
def as1:Tr:=.split (.u 3 0) Nw (cM 0 0 10 45 (aQ .sub 3 11 1 4 0 3 (bK .sub 3 12 13 5 0 1 0 3 (eU 0 0 6 0 45 9 14 (dP 7 0 none 3 15 (.ret [(W 8 0)]))))))
def aG5:Tr:=cM 0 0 6 45 (bK .geq 3 5 7 1 0 2 0 4 as1)
theorem Pu:aN prog f263 (fun _=>none) [.v none, .v none] = aG5:=by kernel_rfl
def XI:Tr:=.ret [(W 5 0)]
def aD1:Tr:=cM 0 0 5 45 (cM 1 0 7 45 (bK .gtr 3 6 8 2 0 3 0 4 (.split (.u 4 0) (cM 0 0 10 45 XI) (cM 1 0 12 45 XI))))
theorem IT:aN prog f262 (fun _=>none) [.v none, .v none] = aD1:=by kernel_rfl
def ab7:Tr:=aQ .sub 3 40 32768 16 0 3 (aQ .sub 3 43 1 4 0 3 (bK .sub 3 44 45 19 0 7 0 3 (.need (.idx 8 (.u 20 0)) (.indexAddr 45 (tT 42) (tT 46)) 0 false (.need (.strow 8 1 (.u 20 0) 0 [(.u 18 0)]) (.store 3 (tT 48) (tT 47)) 0 false (aQ .add 3 21 1 7 0 3 (.back 0 [lK 1,lV 22 0, .row 21]))))))
def ae7:Tr:=.split (.u 17 0) ab7 (aQ .sub 3 43 1 4 0 3 (bK .sub 3 44 45 18 0 7 0 3 (.need (.idx 8 (.u 19 0)) (.indexAddr 45 (tT 42) (tT 46)) 0 false (.need (.strow 8 1 (.u 19 0) 0 [(.u 16 0)]) (.store 3 (tT 48) (tT 47)) 0 false (aQ .add 3 21 1 7 0 3 (.back 0 [lK (-1),lV 21 0, .row 20]))))))
def Zx:Tr:=aQ .sub 3 40 32768 14 0 3 (aQ .sub 3 43 1 4 0 3 (bK .sub 3 44 45 18 0 7 0 3 (.need (.idx 8 (.u 19 0)) (.indexAddr 45 (tT 42) (tT 46)) 0 false (.need (.strow 8 1 (.u 19 0) 0 [(.u 17 0)]) (.store 3 (tT 48) (tT 47)) 0 false (aQ .add 3 21 1 7 0 3 (.back 0 [lK 1,lV 21 0, .row 20]))))))
def ae6:Tr:=.split (.u 16 0) Zx (aQ .sub 3 43 1 4 0 3 (bK .sub 3 44 45 17 0 7 0 3 (.need (.idx 8 (.u 18 0)) (.indexAddr 45 (tT 42) (tT 46)) 0 false (.need (.strow 8 1 (.u 18 0) 0 [(.u 14 0)]) (.store 3 (tT 48) (tT 47)) 0 false (aQ .add 3 21 1 7 0 3 (.back 0 [lK 0,lV 20 0, .row 19]))))))
def aq8:Tr:=bK .mul 3 26 29 2 0 11 0 3 (bK .add 3 25 30 10 0 12 0 3 (bK .add 3 31 32 13 0 6 0 3 (aQ .lss 3 34 0 14 0 4 (.split (.u 15 0) (aQ .add 3 36 32768 14 0 3 (aQ .geq 3 38 32768 16 0 4 ae7)) (aQ .geq 3 38 32768 14 0 4 ae6)))))
def at0:Tr:=aQ .add 3 14 1 3 0 3 (.need (.make [(.int .i64 0)] 8 (.u 4 0) (.u 4 0)) (.makeSlice 45 (tT 16) (tT 16)) 45 false (.loop 0 [lK 0,lK 0, .row 5] (bK .lss 3 18 19 7 0 4 0 4 (.split (.u 9 0) (aJ 263 [(W 0 0),(W 7 0)] [none] [23,24] [45,3] 3 false (aJ 263 [(W 1 0),(W 7 0)] [none] [27,28] [45,3] 3 false aq8)) (aJ 260 [(.one (.c (.sr 1 8)))] [none] [49] [45] 45 true (.ret [(W 10 0)]))))))
def as0:Tr:=aJ 262 [(W 0 0),(W 1 0)] [none] [12,13] [45,45] 3 true at0
theorem WG:aN prog f214 (fun _=>none) [.v none, .v none, .v none] = as0:=by kernel_rfl
def Xx:Tr:=.ret [(.agg [(U 1 0),(U 0 1)])]
def ax9:Tr:=.need (.prim [(W 0 0)] none) (.unOp .neg 3 (tT 4)) 3 false Xx
theorem VH:aN prog f183 (fun _=>none) [.v (some 2)] = ax9:=by kernel_rfl
def at7:Tr:=bK .mul 3 4 6 0 0 0 0 3 Xx
theorem Vp:aN prog f148 (fun _=>none) [.v (some 2)] = at7:=by kernel_rfl
def RF:Tr:=.ret [(G2 8)]
def aJ1:Tr:=bK .eql 3 14 16 0 0 1 0 4 (.split (.u 4 0) (.need (.call 214 [(W 0 1),(W 1 1),(WK 1)] [none]) (.call ⟨.value (.func 214),#[(tT 21),(tT 23),(.const (I3 1))],#[45,45,3]⟩) 45 true (aJ 211 [(W 0 0),(W 5 0)] [(some 2)] [19,24] [3,45] 47 true (.ret [(G2 6)]))) (aJ 215 [(W 0 1),(W 1 1)] [none] [27,29] [45,45] 3 true (aQ .geq 3 30 0 5 0 4 (.split (.u 6 0) (.need (.call 214 [(W 0 1),(W 1 1),(WK (-1))] [none]) (.call ⟨.value (.func 214),#[(tT 35),(tT 37),(.const (I3 (-1)))],#[45,45,3]⟩) 45 true (aJ 211 [(W 0 0),(W 7 0)] [(some 2)] [33,38] [3,45] 47 true RF)) (.need (.call 214 [(W 1 1),(W 0 1),(WK (-1))] [none]) (.call ⟨.value (.func 214),#[(tT 43),(tT 45),(.const (I3 (-1)))],#[45,45,3]⟩) 45 true (aJ 211 [(W 1 0),(W 7 0)] [(some 2)] [41,46] [3,45] 47 true RF))))))
def aD8:Tr:=aQ .eql 3 6 0 0 0 4 (.split (.u 2 0) (.ret [(G2 1)]) (aQ .eql 3 10 0 1 0 4 (.split (.u 3 0) (.ret [(G2 0)]) aJ1)))
theorem VU:aN prog f138 (fun _=>none) [.v (some 2), .v (some 2)] = aD8:=by kernel_rfl
def aE5:Tr:=aJ 183 [(G2 1)] [(some 2)] [6] [47] 47 true (aJ 138 [(G2 0),(G2 2)] [(some 2)] [5,7] [47,47] 47 true (.ret [(G2 3)]))
theorem Vw:aN prog f210 (fun _=>none) [.v (some 2), .v (some 2)] = aE5:=by kernel_rfl
def ak7:Tr:=aQ .add 3 58 1 27 0 3 (aQ .rem 3 60 32768 26 0 3 (.need (.idx 15 (.u 28 0)) (.indexAddr 45 (tT 55) (tT 59)) 0 false (.need (.strow 15 1 (.u 28 0) 0 [(.u 29 0)]) (.store 3 (tT 62) (tT 61)) 0 false (aQ .quo 3 63 32768 26 0 3 (aQ .sub 3 32 1 14 0 3 (.back 1 [lV 31 0,lV 32 0, .row 30]))))))
def ai5:Tr:=dP 20 0 none 3 44 (eU 1 1 14 0 45 47 48 (dP 22 0 none 3 49 (bK .mul 3 45 50 21 0 23 0 3 (bK .add 3 40 51 19 0 24 0 3 (bK .add 3 52 53 25 0 13 0 3 (bK .add 3 56 57 8 0 14 0 3 ak7))))))
def Yv:Tr:=aQ .geq 3 30 0 14 0 4 (.split (.u 16 0) (bK .add 3 35 36 8 0 14 0 3 (aQ .add 3 37 1 17 0 3 (.need (.idx 15 (.u 18 0)) (.indexAddr 45 (tT 34) (tT 38)) 0 false (.need (.ldrow 15 (.u 18 0) 0 1 false) (.load 3 (tT 39)) 3 false (eU 0 1 8 0 45 42 43 ai5))))) (.need (.idx 15 (.u 8 0)) (.indexAddr 45 (tT 65) (tT 66)) 0 false (.need (.strow 15 1 (.u 8 0) 0 [(.u 13 0)]) (.store 3 (tT 68) (tT 67)) 0 false (aQ .sub 3 24 1 8 0 3 (.back 0 [lV 18 0, .row 17])))))
def aF7:Tr:=aQ .sub 3 20 1 6 0 3 (.loop 0 [lV 7 0, .row 5] (aQ .geq 3 22 0 8 0 4 (.split (.u 10 0) (cM 1 1 27 45 (aQ .sub 3 28 1 11 0 3 (.loop 1 [lK 0,lV 12 0, .row 9] Yv))) (bK .mul 3 70 72 0 0 1 0 3 (aJ 211 [(W 11 0),(.one (.c (.sr 1 9)))] [(some 2)] [73,74] [3,45] 47 true (.ret [(G2 12)]))))))
def ar1:Tr:=cM 0 1 11 45 (cM 1 1 14 45 (bK .add 3 12 15 2 0 3 0 3 (.need (.make [(.int .i64 0)] 8 (.u 4 0) (.u 4 0)) (.makeSlice 45 (tT 16) (tT 16)) 45 false (cM 0 1 19 45 aF7))))
theorem Wc:aN prog f135 (fun _=>none) [.v (some 2), .v (some 2)] = ar1:=by kernel_rfl
def ay0:Tr:=aJ 210 [(G2 0),(G2 1)] [(some 2)] [5,6] [47,47] 47 true (.ret [(W 2 0)])
theorem SY:aN prog f134 (fun _=>none) [.v (some 2), .v (some 2)] = ay0:=by kernel_rfl
abbrev rB (ds:List Nat):List (List aI):=ds.map fun (d:Nat)=>[aI.int .i64 (d:Int)]
abbrev sB (ds:List Nat):aI:=.slice 1 (rB ds)
abbrev bT (n:Nat):aI:=sB (bd n)
abbrev zC (z:Int):List aI:=[.int .i64 z.sign,bT z.natAbs]
abbrev zT (z:Int):aH:=.agg (zC z)
theorem PM:DB 32768 []:=fun d hd=>by cases hd
theorem pR {n:Nat} (h:n = 0):aI.Sub (.exact (.slice none 0 0)) (bT n):=by
 subst h
 rw [bT,Bv]; exact aI.Sub.nil
theorem sliceB {ds:List Nat} {x:Operand} {ty:Nat} {y:Operand} {k:IntKind} {n:Int} {m:Nat} (h0:0 ≤ n) (hm:n.toNat = m) (hn:m ≤ ds.length):aV prog (.slice 45 x (some y) none none) ty [.one (sB ds), .one (.int k n)] (.one (sB (ds.drop m))):=by
 have:=ET (P:=prog) (T:=45) (x:=x) (y:=y) (ty:=ty) (k:=k) (n:=n) (ts:=rB ds) eI h0 (by rw [List.length_map,hm]; exact hn)
 rw [hm,rB,← List.map_drop] at this
 exact this
theorem Wh {ds:List Nat} {x:Operand} {ty:Nat} {y:Operand} {k:IntKind} {n:Int} {m:Nat} (h0:0 ≤ n) (hm:n.toNat = m) (hn:m ≤ ds.length):aV prog (.slice 45 x none (some y) none) ty [.one (sB ds), .one (.int k n)] (.one (sB (ds.take m))):=by
 have:=EJ (P:=prog) (T:=45) (x:=x) (y:=y) (ty:=ty) (k:=k) (n:=n) (ts:=rB ds) eI h0 (by rw [List.length_map,hm]; exact hn)
 rw [hm,rB,← List.map_take] at this
 exact this
theorem rV (ds:List Nat) (hd:DB 32768 ds) (hs:ds.length < 4611686018427387904):aL prog 260 [(.one (sB ds):aH)] (.ret [.one (bT (bv ds))]):=by
 refine aD (args:=[.v none]) (ins:=[.v (.one (sB ds))]) (hints:=(fun _=>none)) fo (by kernel_rfl) func260 ⟨rfl,trivial⟩ ?_
 rw [So]
 dsimp only [List.map,In.env,aB,aA]
 refine bA {xs:List Nat // DB 32768 xs ∧ bv xs = bv ds ∧ xs.length ≤ ds.length} (fun g=>[.one (sB g.1)]) (fun g=>g.1.length) ⟨ds,hd,rfl,Nat.le_refl _⟩ aM.rfl (fun _=>rfl) ?_
 rintro ⟨xs,hx,hv,hl⟩
 dsimp only [aB,aA] at hx hv hl ⊢
 refine vn (aO eI (List.length_map _)) rfl ?_
 dsimp only [aB,aA]
 refine vn cP rfl ?_
 dsimp only [aB,aA]
 refine vs _ rfl (fun h3=>?_) (fun h3=>?_)
 ·obtain ⟨d,hget⟩:∃ d,xs[0]? = some d:=⟨_,List.getElem?_eq_getElem (by omega)⟩
  refine vn (aR eI (by omega) (by omega) hget) rfl ?_
  dsimp only [aB,aA]
  refine vn (bB Nt) rfl ?_
  dsimp only [aB,aA]
  refine vn bE rfl ?_
  dsimp only [aB,aA]
  refine vs _ rfl (fun h7=>?_) (fun h7=>?_)
  ·refine vn (sliceB (by omega) rfl (by omega)) rfl ?_
   dsimp only [aB,aA]
   exact aP rfl ⟨⟨xs.drop 1,hx.drop 1,by
    have h7:d = 0:=by omega
    rw [← hv,Nc hget,h7,Nat.mul_zero,Nat.add_zero],by show (xs.drop 1).length ≤ _; rw [List.length_drop]; omega⟩,aM.rfl,by show (xs.drop 1).length < xs.length; rw [List.length_drop]; omega⟩
  have e:bd (bv ds) = xs:=by
   rw [← hv]
   refine az5 hx fun d' h'=>?_
   rw [List.head?_eq_getElem?,hget] at h'
   simp only [Option.some.injEq] at h'
   subst h'; omega
  rw [bT,e]; exact aK rfl
 have e:bd (bv ds) = xs:=by
  have:xs = []:=List.eq_nil_of_length_eq_zero (by omega)
  rw [← hv,this]; exact Bv
 rw [bT,e]; exact aK rfl
theorem fL (s z:Int) (ds:List Nat) (hd:DB 32768 ds) (hs:ds.length < 4611686018427387904) (h1:z.natAbs = bv ds) (h2:bv ds ≠ 0 → z.sign = s):aL prog 211 [(.one (.int .i64 s):aH),(.one (sB ds):aH)] (.ret [zT z]):=by
 refine aD (args:=[.v none, .v none]) (ins:=[.v (.one (.int .i64 s)), .v (.one (sB ds))]) (hints:=(fun _=>none)) fo (by kernel_rfl) func211 ⟨rfl,rfl,trivial⟩ ?_
 rw [Tl]
 dsimp only [List.map,In.env,aB,aA]
 have hlen:(bd (bv ds)).length = 0 ↔ bv ds = 0:=by rw [List.length_eq_zero_iff,Dt]
 have hl2:(bd (bv ds)).length ≤ ds.length:=iG (Gz hd)
 refine aC (rV ds hd hs) rfl ?_
 dsimp only [aB,aA]
 refine vn (aO eI (List.length_map _)) rfl ?_
 dsimp only [aB,aA]
 refine vn bE rfl ?_
 dsimp only [aB,aA]
 refine vs _ rfl (fun h3=>?_) (fun h3=>?_)
 ·have hz:z = 0:=by
   have:=hlen.1 (by omega)
   omega
  subst hz
  exact dA ⟨⟨aI.Sub.same,pR rfl,trivial⟩,trivial⟩
 refine aK ?_
 rw [← h2 (fun h=>h3 (by have:=hlen.2 h; omega)),← h1]
 rfl
theorem Ha {ds:List Nat} {m n:Nat} (hm:m ≠ 0) (h:bv ds + 32768 ^ ds.length * m = n) (hn:n < 18446744073709551616):ds.length ≤ 4:=by
 rcases Nat.lt_or_ge ds.length 5 with h1 | h1
 ·omega
 ·have h2:32768 ^ 5 ≤ 32768 ^ ds.length:=Nat.pow_le_pow_right (by omega) h1
  have h3:32768 ^ ds.length ≤ 32768 ^ ds.length * m:=Nat.le_mul_of_pos_right _ (by omega)
  omega
theorem zJ {ds:List Nat} {m n:Nat} (h:bv ds + 32768 ^ ds.length * m = n):bv (m % 32768 :: ds) + 32768 ^ (m % 32768 :: ds).length * (m / 32768) = n:=by
 rw [Bi,List.length_cons,Nat.pow_succ,Nat.add_assoc,Nat.mul_assoc,← Nat.mul_add,Nat.mod_add_div]; exact h
theorem neg_tmod {m:Nat}:(-(m:Int)).tmod 32768 = -((m % 32768:Nat):Int):=by rw [Int.neg_tmod,Int.tmod_eq_emod_of_nonneg (by omega)]; omega
theorem neg_tdiv {m:Nat}:(-(m:Int)).tdiv 32768 = -((m / 32768:Nat):Int):=by rw [Int.neg_tdiv,Int.tdiv_eq_ediv_of_nonneg (by omega)]; omega
theorem nV (n:Int) (h1:-9223372036854775808 ≤ n) (h2:n < 9223372036854775808):aL prog 139 [(.one (.int .i64 n):aH)] (.ret [zT n]):=by
 refine aD (args:=[.v none]) (ins:=[.v (.one (.int .i64 n))]) (hints:=(fun _=>none)) fo (by kernel_rfl) func139 ⟨rfl,trivial⟩ ?_
 rw [UO]
 dsimp only [List.map,In.env,aB,aA]
 refine vn aY rfl ?_
 dsimp only [aB,aA]
 refine vs _ rfl (fun h1=>?_) (fun h1'=>?_)
 ·refine bA {g:Nat × List Nat // bv g.2 + 32768 ^ g.2.length * g.1 = n.natAbs ∧ DB 32768 g.2 ∧ g.1 ≤ 9223372036854775808 ∧ g.2.length ≤ 5} (fun g=>[.one (.int .i64 (-(g.1.1:Int))), .rows (rB g.1.2)]) (fun g=>g.1.1) ⟨(n.natAbs,[]),by simp [bv,val],PM,by show n.natAbs ≤ _; omega,by simp⟩ ⟨aH.Sub.of_eq (congrArg (fun q=>aH.one (aI.int .i64 q)) (by show n = -((n.natAbs:Nat):Int); omega)),aH.Sub.same,trivial⟩ (fun _=>rfl) ?_
  rintro ⟨⟨m,ds⟩,hv,hd,hm,hl⟩
  dsimp only [aB,aA] at hv hd hm hl ⊢
  refine vn dR rfl ?_
  dsimp only [aB,aA]
  refine vs _ rfl (fun h4=>?_) (fun h4=>?_)
  ·have hm0:m ≠ 0:=by omega
   have hl4:=Ha hm0 hv (by omega)
   have hd2:DB 32768 (m % 32768 :: ds):=fun d hd'=>by
    rcases List.mem_cons.1 hd' with rfl | hd'
    ·omega
    ·exact hd d hd'
   refine vn (Cf (c:=-((m % 32768:Nat):Int)) (by decide) neg_tmod) rfl ?_
   dsimp only [aB,aA]
   refine vn aY rfl ?_
   dsimp only [aB,aA]
   refine vs _ rfl (fun h7=>?_) (fun h7=>?_)
   ·refine vn (Ei (by omega) (by omega)) rfl ?_
    dsimp only [aB,aA]
    refine bL (us:=rB [m % 32768]) (by show [[aI.int .i64 _]] = [[aI.int .i64 _]]; congr 3; omega) ?_
    dsimp only [aB,aA]
    refine tR (ts:=rB [m % 32768]) (us:=rB ds) (vs:=rB (m % 32768 :: ds)) rfl rfl rfl (by simp; omega) (by simp [maxLen]; omega) ?_
    dsimp only [aB,aA]
    refine vn (pO (c:=-((m / 32768:Nat):Int)) (by decide) (by rw [neg_tdiv]; exact dI (by omega) (by omega))) rfl ?_
    dsimp only [aB,aA]
    exact aP rfl ⟨⟨(m / 32768,m % 32768 :: ds),zJ hv,hd2,by show m / 32768 ≤ _; omega,by show ds.length + 1 ≤ 5; omega⟩,aM.rfl,by show m / 32768 < m; omega⟩
   refine bL (us:=rB [m % 32768]) (by show [[aI.int .i64 _]] = [[aI.int .i64 _]]; congr 3; omega) ?_
   dsimp only [aB,aA]
   refine tR (ts:=rB [m % 32768]) (us:=rB ds) (vs:=rB (m % 32768 :: ds)) rfl rfl rfl (by simp; omega) (by simp [maxLen]; omega) ?_
   dsimp only [aB,aA]
   refine vn (pO (c:=-((m / 32768:Nat):Int)) (by decide) (by rw [neg_tdiv]; exact dI (by omega) (by omega))) rfl ?_
   dsimp only [aB,aA]
   exact aP rfl ⟨⟨(m / 32768,m % 32768 :: ds),zJ hv,hd2,by show m / 32768 ≤ _; omega,by show ds.length + 1 ≤ 5; omega⟩,aM.rfl,by show m / 32768 < m; omega⟩
  have hm0:m = 0:=by omega
  subst hm0
  rw [Nat.mul_zero,Nat.add_zero] at hv
  refine aC (fL (-1) n ds hd (by omega) hv.symm (fun _=>Int.sign_eq_neg_one_of_neg h1)) rfl ?_
  dsimp only [aB,aA]
  exact aK rfl
 refine bA {g:Nat × List Nat // bv g.2 + 32768 ^ g.2.length * g.1 = n.natAbs ∧ DB 32768 g.2 ∧ g.1 ≤ 9223372036854775808 ∧ g.2.length ≤ 5 ∧ g.1 < 9223372036854775808} (fun g=>[.one (.int .i64 (g.1.1:Int)), .rows (rB g.1.2)]) (fun g=>g.1.1) ⟨(n.natAbs,[]),by simp [bv,val],PM,by show n.natAbs ≤ _; omega,by simp,by show n.natAbs < _; omega⟩ ⟨aH.Sub.of_eq (congrArg (fun q=>aH.one (aI.int .i64 q)) (by show n = ((n.natAbs:Nat):Int); omega)),aH.Sub.same,trivial⟩ (fun _=>rfl) ?_
 rintro ⟨⟨m,ds⟩,hv,hd,hm,hl,hmm⟩
 dsimp only [aB,aA] at hv hd hm hl hmm ⊢
 refine vn dR rfl ?_
 dsimp only [aB,aA]
 refine vs _ rfl (fun h21=>?_) (fun h21=>?_)
 ·have hm0:m ≠ 0:=by omega
  have hl4:=Ha hm0 hv (by omega)
  have hd2:DB 32768 (m % 32768 :: ds):=fun d hd'=>by
   rcases List.mem_cons.1 hd' with rfl | hd'
   ·omega
   ·exact hd d hd'
  refine vn (eS (by omega) (by omega)) rfl ?_
  dsimp only [aB,aA]
  refine vn aY rfl ?_
  dsimp only [aB,aA]
  refine vs _ rfl (fun h24=>?_) (fun h24=>?_)
  ·exfalso; omega
  refine bL (us:=rB [m % 32768]) (by show [[aI.int .i64 _]] = [[aI.int .i64 _]]; congr 3) ?_
  dsimp only [aB,aA]
  refine tR (ts:=rB [m % 32768]) (us:=rB ds) (vs:=rB (m % 32768 :: ds)) rfl rfl rfl (by simp; omega) (by simp [maxLen]; omega) ?_
  dsimp only [aB,aA]
  refine vn (gL (by omega) (by omega) (by omega)) rfl ?_
  dsimp only [aB,aA]
  exact aP rfl ⟨⟨(m / 32768,m % 32768 :: ds),zJ hv,hd2,by show m / 32768 ≤ _; omega,by show ds.length + 1 ≤ 5; omega,by show m / 32768 < _; omega⟩,aM.rfl,by show m / 32768 < m; omega⟩
 have hm0:m = 0:=by omega
 subst hm0
 rw [Nat.mul_zero,Nat.add_zero] at hv
 refine aC (fL 1 n ds hd (by omega) hv.symm (fun h=>Int.sign_eq_one_of_pos (by omega))) rfl ?_
 dsimp only [aB,aA]
 exact aK rfl
theorem HW {xs ys:List Nat} (hx:DB 32768 xs) {i x y:Nat} (hl:xs.length = ys.length) (hi:xs[i]? = some x) (hj:ys[i]? = some y) (ht:xs.take i = ys.take i) (hxy:x < y):bv xs < bv ys:=by
 have e:∀ (zs:List Nat) (z:Nat),zs[i]? = some z → bv zs = bv (zs.take i) * 32768 ^ (zs.length - i) + (bv (zs.drop (i + 1)) + 32768 ^ (zs.length - (i + 1)) * z):=fun zs z hz=>by
  have hlt:i < zs.length:=(List.getElem?_eq_some_iff.1 hz).1
  conv=>lhs; rw [← List.take_append_drop i zs]
  rw [LW,List.length_drop]
  congr 1
  rw [List.drop_eq_getElem_cons hlt,(List.getElem?_eq_some_iff.1 hz).2,Bi,List.length_drop]
 rw [e xs x hi,e ys y hj,ht,hl]
 have h1:=Gz (hx.drop (i + 1))
 rw [List.length_drop,hl] at h1
 have h2:32768 ^ (ys.length - (i + 1)) * (x + 1) ≤ 32768 ^ (ys.length - (i + 1)) * y:=Nat.mul_le_mul_left _ hxy
 rw [Nat.mul_add,Nat.mul_one] at h2
 omega
theorem tM {a b:Nat} (h:(bd a).length < (bd b).length):a < b:=by
 rcases Nat.lt_or_ge a b with h1 | h1
 ·exact h1
 ·have:=eK h1; omega
theorem pI (a b:Nat) (hs:(bd a).length + (bd b).length < 1099511627776):aL prog 215 [(.one (bT a):aH),(.one (bT b):aH)] (.ret [.one (.int .i64 (eF a b))]):=by
 refine aD (args:=[.v none, .v none]) (ins:=[.v (.one (bT a)), .v (.one (bT b))]) (hints:=(fun _=>none)) fo (by kernel_rfl) func215 ⟨rfl,rfl,trivial⟩ ?_
 rw [Ra]
 dsimp only [List.map,In.env,aB,aA]
 refine vn (aO eI (List.length_map _)) rfl ?_
 dsimp only [aB,aA]
 refine vn (aO eI (List.length_map _)) rfl ?_
 dsimp only [aB,aA]
 refine vn dR rfl ?_
 dsimp only [aB,aA]
 refine vs _ rfl (fun h3=>?_) (fun h3=>?_)
 ·refine vn (aO eI (List.length_map _)) rfl ?_
  dsimp only [aB,aA]
  refine vn (aO eI (List.length_map _)) rfl ?_
  dsimp only [aB,aA]
  refine vn aY rfl ?_
  dsimp only [aB,aA]
  refine vs _ rfl (fun h7=>?_) (fun h7=>?_)
  ·rw [sJ (by have:=tM (a:=a) (b:=b) (by omega); omega)]; exact aK rfl
  rw [sH (by have:=tM (a:=b) (b:=a) (by omega); omega)]; exact aK rfl
 have hlen:(bd a).length = (bd b).length:=by omega
 refine bA {i:Nat // i ≤ (bd a).length ∧ (bd a).take i = (bd b).take i} (fun g=>[.one (.int .i64 0), .one (.int .i64 g.1)]) (fun g=>(bd a).length - g.1) ⟨0,Nat.zero_le _,rfl⟩ aM.rfl (fun _=>rfl) ?_
 rintro ⟨i,hi,ht⟩
 dsimp only [aB,aA] at hi ht ⊢
 refine vn (aO eI (List.length_map _)) rfl ?_
 dsimp only [aB,aA]
 refine vn aY rfl ?_
 dsimp only [aB,aA]
 refine vs _ rfl (fun h13=>?_) (fun h13=>?_)
 ·obtain ⟨x,hx⟩:∃ x,(bd a)[i]? = some x:=⟨_,List.getElem?_eq_getElem (by omega)⟩
  obtain ⟨y,hy⟩:∃ y,(bd b)[i]? = some y:=⟨_,List.getElem?_eq_getElem (by omega)⟩
  refine vn (aR eI (by omega) (by omega) hx) rfl ?_
  dsimp only [aB,aA]
  refine vn (bB Nt) rfl ?_
  dsimp only [aB,aA]
  refine vn (aR eI (by omega) (by omega) hy) rfl ?_
  dsimp only [aB,aA]
  refine vn (bB Nt) rfl ?_
  dsimp only [aB,aA]
  refine vn aY rfl ?_
  dsimp only [aB,aA]
  refine vs _ rfl (fun h19=>?_) (fun h19=>?_)
  ·have:=HW (gP a) hlen hx hy ht (by omega)
   rw [fD,fD] at this
   rw [sJ (by omega)]; exact aK rfl
  refine vn (aR eI (by omega) (by omega) hx) rfl ?_
  dsimp only [aB,aA]
  refine vn (bB Nt) rfl ?_
  dsimp only [aB,aA]
  refine vn (aR eI (by omega) (by omega) hy) rfl ?_
  dsimp only [aB,aA]
  refine vn (bB Nt) rfl ?_
  dsimp only [aB,aA]
  refine vn cP rfl ?_
  dsimp only [aB,aA]
  refine vs _ rfl (fun h26=>?_) (fun h26=>?_)
  ·have:=HW (gP b) hlen.symm hy hx ht.symm (by omega)
   rw [fD,fD] at this
   rw [sH (by omega)]; exact aK rfl
  refine vn (aE (by omega) (by omega)) rfl ?_
  dsimp only [aB,aA]
  exact aP rfl ⟨⟨i + 1,by omega,by rw [take_succ hx,take_succ hy,ht,show x = y by omega]⟩,aM.rfl,by show (bd a).length - (i + 1) < (bd a).length - i; omega⟩
 have hie:i = (bd a).length:=by omega
 subst hie
 have e:bd a = bd b:=by
  rw [List.take_length,List.take_of_length_le (by omega)] at ht; exact ht
 have:a = b:=by rw [← fD a,e,fD]
 rw [this,Bz]; exact aK rfl
theorem Cj (n i:Nat) (hi:i < 4611686018427387904) (hs:(bd n).length < 1099511627776):aL prog 263 [(.one (bT n):aH),(.one (.int .i64 i):aH)] (.ret [.one (.int .i64 ((n / 32768 ^ i % 32768:Nat):Int))]):=by
 refine aD (args:=[.v none, .v none]) (ins:=[.v (.one (bT n)), .v (.one (.int .i64 i))]) (hints:=(fun _=>none)) fo (by kernel_rfl) func263 ⟨rfl,rfl,trivial⟩ ?_
 rw [Pu]
 dsimp only [List.map,In.env,aB,aA]
 have hdg:=Gr n i
 refine vn (aO eI (List.length_map _)) rfl ?_
 dsimp only [aB,aA]
 refine vn dJ rfl ?_
 dsimp only [aB,aA]
 refine vs _ rfl (fun h2=>?_) (fun h2=>?_)
 ·rw [List.getElem?_eq_none_iff.2 (by rw [List.length_reverse]; omega)] at hdg
  rw [← hdg]; exact aK rfl
 refine vn (aO eI (List.length_map _)) rfl ?_
 dsimp only [aB,aA]
 refine vn (aG (by omega) (by omega)) rfl ?_
 dsimp only [aB,aA]
 refine vn (aG (by omega) (by omega)) rfl ?_
 dsimp only [aB,aA]
 obtain ⟨d,hd⟩:∃ d,(bd n).reverse[i]? = some d:=⟨_,List.getElem?_eq_getElem (by rw [List.length_reverse]; omega)⟩
 have hd2:(bd n)[(bd n).length - 1 - i]? = some d:=by rw [BG (by omega)]; exact hd
 rw [hd] at hdg
 refine vn (aR eI (by omega) (by omega) hd2) rfl ?_
 dsimp only [aB,aA]
 refine vn (bB Nt) rfl ?_
 dsimp only [aB,aA]
 rw [← hdg]; exact aK rfl
theorem JM (a b:Nat):aL prog 262 [(.one (bT a):aH),(.one (bT b):aH)] (.ret [.one (.int .i64 ((max (bd a).length (bd b).length:Nat):Int))]):=by
 refine aD (args:=[.v none, .v none]) (ins:=[.v (.one (bT a)), .v (.one (bT b))]) (hints:=(fun _=>none)) fo (by kernel_rfl) func262 ⟨rfl,rfl,trivial⟩ ?_
 rw [IT]
 dsimp only [List.map,In.env,aB,aA]
 refine vn (aO eI (List.length_map _)) rfl ?_
 dsimp only [aB,aA]
 refine vn (aO eI (List.length_map _)) rfl ?_
 dsimp only [aB,aA]
 refine vn cP rfl ?_
 dsimp only [aB,aA]
 refine vs _ rfl (fun h3=>?_) (fun h3=>?_)
 ·refine vn (aO eI (List.length_map _)) rfl ?_
  dsimp only [aB,aA]
  refine aK ?_
  show [aH.one (aI.int .i64 _)] = [aH.one (aI.int .i64 _)]
  congr 3; omega
 refine vn (aO eI (List.length_map _)) rfl ?_
 dsimp only [aB,aA]
 refine aK ?_
 show [aH.one (aI.int .i64 _)] = [aH.one (aI.int .i64 _)]
 congr 3; omega
theorem val_rev (n:Nat):val 32768 (bd n).reverse = n:=fD n
theorem Ih (n i:Nat):(bd n).reverse[i]?.getD 0 = n / 32768 ^ i % 32768:=Gr n i
set_option maxHeartbeats 1000000 in
theorem jX (a b r:Nat) (k:Int) (hk:k = 1 ∨ k = -1) (hr:(r:Int) = a + k * b) (hs:(bd a).length < 274877906944) (hs2:(bd b).length < 274877906944):aL prog 214 [(.one (bT a):aH),(.one (bT b):aH),(.one (.int .i64 k):aH)] (.ret [.one (bT r)]):=by
 refine aD (args:=[.v none, .v none, .v none]) (ins:=[.v (.one (bT a)), .v (.one (bT b)), .v (.one (.int .i64 k))]) (hints:=(fun _=>none)) fo (by kernel_rfl) func214 ⟨rfl,rfl,rfl,trivial⟩ ?_
 rw [WG]
 dsimp only [List.map,In.env,aB,aA]
 obtain ⟨n,hn⟩:∃ n,max (bd a).length (bd b).length + 1 = n:=⟨_,rfl⟩
 have hrl:r < 32768 ^ n:=by
  have h1:=BQ a
  have h2:=BQ b
  have h3:32768 ^ (bd a).length ≤ 32768 ^ (n - 1):=Nat.pow_le_pow_right (by omega) (by omega)
  have h4:32768 ^ (bd b).length ≤ 32768 ^ (n - 1):=Nat.pow_le_pow_right (by omega) (by omega)
  have h5:32768 ^ n = 32768 ^ (n - 1) * 32768:=by rw [← Nat.pow_succ]; congr 1; omega
  rcases hk with rfl | rfl <;> omega
 refine aC (JM a b) rfl ?_
 dsimp only [aB,aA]
 refine vn (aE (by omega) (by omega)) rfl ?_
 dsimp only [aB,aA]
 refine Cb (n:=n) (f:=fun d:Nat=>[aI.int .i64 (d:Int)]) 0 rfl rfl (by omega) rfl (by omega) (by simp only [maxLen]; omega) ?_
 dsimp only [aB,aA]
 refine bA {g:Nat × Int × List Nat // DH 32768 (bd a).reverse (bd b).reverse n k g.1 g.2.1 g.2.2} (fun g=>[.one (.int .i64 g.1.2.1), .one (.int .i64 g.1.1), .rows (rB g.1.2.2.reverse)]) (fun g=>n - g.1.1) ⟨(0,0,List.replicate n 0),DH.init (by omega) _ _ _ _⟩ ⟨aH.Sub.same,aH.Sub.same,aH.Sub.of_eq (by rw [List.reverse_replicate]; rfl),trivial⟩ (fun _=>rfl) ?_
 rintro ⟨⟨i,c,os⟩,hI⟩
 dsimp only [aB,aA] at hI ⊢
 have hil:=hI.le
 have hol:=hI.len
 have hc0:=hI.c0
 have hc1:=hI.c1
 refine vn aY rfl ?_
 dsimp only [aB,aA]
 refine vs _ rfl (fun h5=>?_) (fun h5=>?_)
 ·obtain ⟨x,hx⟩:∃ x,a / 32768 ^ i % 32768 = x:=⟨_,rfl⟩
  obtain ⟨y,hy⟩:∃ y,b / 32768 ^ i % 32768 = y:=⟨_,rfl⟩
  have hxB:x < 32768:=by rw [← hx]; exact Nat.mod_lt _ (by omega)
  have hyB:y < 32768:=by rw [← hy]; exact Nat.mod_lt _ (by omega)
  have hcall1:=Cj a i (by omega) (by omega)
  have hcall2:=Cj b i (by omega) (by omega)
  rw [hx] at hcall1
  rw [hy] at hcall2
  have hnext:∀ (z:Nat) (c':Int),z < 32768 → -1 ≤ c' → c' ≤ 1 → (z:Int) + 32768 * c' = x + k * y + c → DH 32768 (bd a).reverse (bd b).reverse n k (i + 1) c' (os.set i z):=fun z c' h1 h2 h3 h4=>
   hI.next (by omega) (by rw [Ih,hx]) (by rw [Ih,hy]) h2 h3 h1 h4
  have hst:∀ z,os.reverse.set (n - 1 - i) z = (os.set i z).reverse:=fun z=>by rw [← hol]; exact FJ (by omega)
  obtain ⟨o0,hgo⟩:∃ o0,os.reverse[n - 1 - i]? = some o0:=⟨_,List.getElem?_eq_getElem (by rw [List.length_reverse]; omega)⟩
  have hky:k * y = y ∨ k * y = -(y:Int):=by rcases hk with rfl | rfl <;> simp
  generalize hkyv:k * (y:Int) = ky at hnext hky
  refine aC hcall1 rfl ?_
  dsimp only [aB,aA]
  refine aC hcall2 rfl ?_
  dsimp only [aB,aA]
  refine vn (qS (c:=ky) (by rw [hkyv]; exact dI (by omega) (by omega))) rfl ?_
  dsimp only [aB,aA]
  refine vn (aE (by omega) (by omega)) rfl ?_
  dsimp only [aB,aA]
  refine vn (aE (by omega) (by omega)) rfl ?_
  dsimp only [aB,aA]
  refine vn aY rfl ?_
  dsimp only [aB,aA]
  refine vs _ rfl (fun h12=>?_) (fun h12=>?_)
  ·refine vn (aE (by omega) (by omega)) rfl ?_
   dsimp only [aB,aA]
   refine vn dJ rfl ?_
   dsimp only [aB,aA]
   refine vs _ rfl (fun h15=>?_) (fun h15=>?_)
   ·exfalso; omega
   refine vn (aG (by omega) (by omega)) rfl ?_
   dsimp only [aB,aA]
   refine vn (aG (by omega) (by omega)) rfl ?_
   dsimp only [aB,aA]
   refine cY rfl rfl (by omega) (by rw [List.length_reverse]; omega) ?_
   refine mC (d':=(x + ky + c + 32768).toNat) rfl rfl (by omega) (by omega) hgo (by show [aI.int .i64 _] = [aI.int .i64 _]; congr 2; omega) ?_
   rw [hst]
   dsimp only [aB,aA]
   refine vn (aE (by omega) (by omega)) rfl ?_
   dsimp only [aB,aA]
   exact aP rfl ⟨⟨(i + 1,-1,os.set i (x + ky + c + 32768).toNat),hnext _ (-1) (by omega) (by omega) (by omega) (by omega)⟩,aM.rfl,by show n - (i + 1) < n - i; omega⟩
  refine vn dJ rfl ?_
  dsimp only [aB,aA]
  refine vs _ rfl (fun h30=>?_) (fun h30=>?_)
  ·refine vn (aG (by omega) (by omega)) rfl ?_
   dsimp only [aB,aA]
   refine vn (aG (by omega) (by omega)) rfl ?_
   dsimp only [aB,aA]
   refine vn (aG (by omega) (by omega)) rfl ?_
   dsimp only [aB,aA]
   refine cY rfl rfl (by omega) (by rw [List.length_reverse]; omega) ?_
   refine mC (d':=(x + ky + c - 32768).toNat) rfl rfl (by omega) (by omega) hgo (by show [aI.int .i64 _] = [aI.int .i64 _]; congr 2; omega) ?_
   rw [hst]
   dsimp only [aB,aA]
   refine vn (aE (by omega) (by omega)) rfl ?_
   dsimp only [aB,aA]
   exact aP rfl ⟨⟨(i + 1,1,os.set i (x + ky + c - 32768).toNat),hnext _ 1 (by omega) (by omega) (by omega) (by omega)⟩,aM.rfl,by show n - (i + 1) < n - i; omega⟩
  refine vn (aG (by omega) (by omega)) rfl ?_
  dsimp only [aB,aA]
  refine vn (aG (by omega) (by omega)) rfl ?_
  dsimp only [aB,aA]
  refine cY rfl rfl (by omega) (by rw [List.length_reverse]; omega) ?_
  refine mC (d':=(x + ky + c).toNat) rfl rfl (by omega) (by omega) hgo (by show [aI.int .i64 _] = [aI.int .i64 _]; congr 2; omega) ?_
  rw [hst]
  dsimp only [aB,aA]
  refine vn (aE (by omega) (by omega)) rfl ?_
  dsimp only [aB,aA]
  exact aP rfl ⟨⟨(i + 1,0,os.set i (x + ky + c).toNat),hnext _ 0 (by omega) (by omega) (by omega) (by omega)⟩,aM.rfl,by show n - (i + 1) < n - i; omega⟩
 have hie:i = n:=by omega
 subst hie
 have hf:=hI.fin (by omega) (by rw [List.length_reverse]; omega) (by rw [List.length_reverse]; omega) (r:=r) (by rw [val_rev,val_rev]; exact hr) hrl
 refine aC (rV os.reverse hI.dg.rev (by rw [List.length_reverse]; omega)) rfl ?_
 dsimp only [aB,aA]
 refine aK ?_
 rw [← hf,bv,List.reverse_reverse]; rfl
end Go.Sy
namespace Go.Sy
open Go Go.Proofs Tryz Ord
theorem BI (z:Int):-1 ≤ z.sign ∧ z.sign ≤ 1:=by rcases cB z with ⟨_,e⟩ | ⟨_,e⟩ | ⟨_,e⟩ <;> omega
theorem Bo (z:Int):aL prog 183 [(zT z:aH)] (.ret [zT (-z)]):=by
 refine aD (args:=[.v (some 2)]) (ins:=[.v (zT z)]) (hints:=(fun _=>none)) fo (by kernel_rfl) func183 ⟨rfl,trivial⟩ ?_
 rw [VH]
 dsimp only [List.map,In.env,aB,aA]
 have:=BI z
 refine vn (Ei (by omega) (by omega)) rfl ?_
 dsimp only [aB,aA]
 refine aK ?_
 show [aH.agg [.int .i64 (-z.sign),bT z.natAbs]] = [zT (-z)]
 rw [zT,zC,Int.sign_neg,Int.natAbs_neg]
theorem Xj (z:Int):aL prog 148 [(zT z:aH)] (.ret [zT (z.natAbs:Int)]):=by
 refine aD (args:=[.v (some 2)]) (ins:=[.v (zT z)]) (hints:=(fun _=>none)) fo (by kernel_rfl) func148 ⟨rfl,trivial⟩ ?_
 rw [Vp]
 dsimp only [List.map,In.env,aB,aA]
 refine vn (qS (c:=((z.natAbs:Nat):Int).sign) (by
  rcases cB z with ⟨h,e⟩ | ⟨h,e⟩ | ⟨h,e⟩ <;> rw [e]
  ·rw [Int.sign_eq_one_of_pos (by omega)]; exact dI (by omega) (by omega)
  ·rw [h]; exact dI (by omega) (by omega)
  ·rw [Int.sign_eq_one_of_pos (by omega)]; exact dI (by omega) (by omega))) rfl ?_
 dsimp only [aB,aA]
 exact aK rfl
theorem Yc {a b:Nat}:(bd (a + b)).length ≤ max (bd a).length (bd b).length + 1:=by
 apply iG
 have h1:=BQ a
 have h2:=BQ b
 have h3:32768 ^ (bd a).length ≤ 32768 ^ (max (bd a).length (bd b).length):=Nat.pow_le_pow_right (by omega) (by omega)
 have h4:32768 ^ (bd b).length ≤ 32768 ^ (max (bd a).length (bd b).length):=Nat.pow_le_pow_right (by omega) (by omega)
 rw [Nat.pow_succ]; omega
theorem KA (x y:Int) (hx:(bd x.natAbs).length < 137438953472) (hy:(bd y.natAbs).length < 137438953472):aL prog 138 [(zT x:aH),(zT y:aH)] (.ret [zT (x + y)]):=by
 refine aD (args:=[.v (some 2), .v (some 2)]) (ins:=[.v (zT x), .v (zT y)]) (hints:=(fun _=>none)) fo (by kernel_rfl) func138 ⟨rfl,rfl,trivial⟩ ?_
 rw [VU]
 dsimp only [List.map,In.env,aB,aA]
 have hx0:=cB x
 have hy0:=cB y
 have hl:∀ n,n ≤ x.natAbs + y.natAbs → (bd n).length < 274877906944:=fun n hn=>by
  have h1:=eK hn
  have h2:=Yc (a:=x.natAbs) (b:=y.natAbs)
  omega
 refine vn bE rfl ?_
 dsimp only [aB,aA]
 refine vs _ rfl (fun h1=>?_) (fun h1=>?_)
 ·rw [show x = 0 by omega,Int.zero_add]; exact aK rfl
 refine vn bE rfl ?_
 dsimp only [aB,aA]
 refine vs _ rfl (fun h4=>?_) (fun h4=>?_)
 ·rw [show y = 0 by omega,Int.add_zero]; exact aK rfl
 refine vn bE rfl ?_
 dsimp only [aB,aA]
 refine vs _ rfl (fun h7=>?_) (fun h7=>?_)
 ·refine aC (jX x.natAbs y.natAbs (x.natAbs + y.natAbs) 1 (.inl rfl) (by omega) (by omega) (by omega)) rfl ?_
  dsimp only [aB,aA]
  refine aC (fL x.sign (x + y) _ (gP _) (by have:=hl _ (Nat.le_refl _); omega) (by rw [fD]; omega) (fun _=>by
   rcases hx0 with ⟨h,e⟩ | ⟨h,e⟩ | ⟨h,e⟩
   ·rw [e]; exact Int.sign_eq_neg_one_of_neg (by omega)
   ·omega
   ·rw [e]; exact Int.sign_eq_one_of_pos (by omega))) rfl ?_
  dsimp only [aB,aA]
  exact aK rfl
 refine aC (pI x.natAbs y.natAbs (by omega)) rfl ?_
 dsimp only [aB,aA]
 refine vn dJ rfl ?_
 dsimp only [aB,aA]
 have hci:(0 ≤ eF (x.natAbs:Int) (y.natAbs:Int)) ↔ y.natAbs ≤ x.natAbs:=by
  have:=rJ (a:=(x.natAbs:Int)) (b:=(y.natAbs:Int)); omega
 refine vs _ rfl (fun h13=>?_) (fun h13=>?_)
 ·refine aC (jX x.natAbs y.natAbs (x.natAbs - y.natAbs) (-1) (.inr rfl) (by omega) (by omega) (by omega)) rfl ?_
  dsimp only [aB,aA]
  refine aC (fL x.sign (x + y) _ (gP _) (by have:=hl (x.natAbs - y.natAbs) (by omega); omega) (by rw [fD]; omega) (fun hne=>by
   rw [fD] at hne
   rcases hx0 with ⟨h,e⟩ | ⟨h,e⟩ | ⟨h,e⟩
   ·rw [e]; exact Int.sign_eq_neg_one_of_neg (by omega)
   ·omega
   ·rw [e]; exact Int.sign_eq_one_of_pos (by omega))) rfl ?_
  dsimp only [aB,aA]
  exact aK rfl
 refine aC (jX y.natAbs x.natAbs (y.natAbs - x.natAbs) (-1) (.inr rfl) (by omega) (by omega) (by omega)) rfl ?_
 dsimp only [aB,aA]
 refine aC (fL y.sign (x + y) _ (gP _) (by have:=hl (y.natAbs - x.natAbs) (by omega); omega) (by rw [fD]; omega) (fun hne=>by
  rw [fD] at hne
  rcases hy0 with ⟨h,e⟩ | ⟨h,e⟩ | ⟨h,e⟩
  ·rw [e]; exact Int.sign_eq_neg_one_of_neg (by omega)
  ·omega
  ·rw [e]; exact Int.sign_eq_one_of_pos (by omega))) rfl ?_
 dsimp only [aB,aA]
 exact aK rfl
theorem VI (x y:Int) (hx:(bd x.natAbs).length < 137438953472) (hy:(bd y.natAbs).length < 137438953472):aL prog 210 [(zT x:aH),(zT y:aH)] (.ret [zT (x - y)]):=by
 refine aD (args:=[.v (some 2), .v (some 2)]) (ins:=[.v (zT x), .v (zT y)]) (hints:=(fun _=>none)) fo (by kernel_rfl) func210 ⟨rfl,rfl,trivial⟩ ?_
 rw [Vw]
 dsimp only [List.map,In.env,aB,aA]
 refine aC (Bo y) rfl ?_
 dsimp only [aB,aA]
 refine aC (KA x (-y) hx (by rw [Int.natAbs_neg]; exact hy)) rfl ?_
 rw [← Int.sub_eq_add_neg]
 dsimp only [aB,aA]
 exact aK rfl
theorem QC (x y:Int):(x - y).sign = eF x y:=by
 unfold eF
 rcases cB (x - y) with ⟨h,e⟩ | ⟨h,e⟩ | ⟨h,e⟩ <;> rw [e]
 ·rw [if_pos (by omega)]
 ·rw [if_neg (by omega),if_neg (by omega)]
 ·rw [if_neg (by omega),if_pos (by omega)]
theorem Uh (x y:Int) (hx:(bd x.natAbs).length < 137438953472) (hy:(bd y.natAbs).length < 137438953472):aL prog 134 [(zT x:aH),(zT y:aH)] (.ret [.one (.int .i64 (eF x y))]):=by
 refine aD (args:=[.v (some 2), .v (some 2)]) (ins:=[.v (zT x), .v (zT y)]) (hints:=(fun _=>none)) fo (by kernel_rfl) func134 ⟨rfl,rfl,trivial⟩ ?_
 rw [SY]
 dsimp only [List.map,In.env,aB,aA]
 refine aC (VI x y hx hy) rfl ?_
 dsimp only [aB,aA]
 rw [← QC]; exact aK rfl
theorem Kn {n la i:Nat} (h:la = (bd n).length) (hi:i < la):∃ d,(bd n)[la - 1 - i]? = some d ∧ (bd n).reverse[i]? = some d ∧ d < 32768:=by
 subst h
 have hd:(bd n).reverse[i]? = some ((bd n).reverse[i]'(by rw [List.length_reverse]; exact hi)):=List.getElem?_eq_getElem _
 exact ⟨_,by rw [BG hi]; exact hd,hd,(gP n).rev.get hd⟩
set_option maxHeartbeats 2000000 in
theorem jC (x y:Int) (hs:(bd x.natAbs).length + (bd y.natAbs).length < 274877906944):aL prog 135 [(zT x:aH),(zT y:aH)] (.ret [zT (x * y)]):=by
 refine aD (args:=[.v (some 2), .v (some 2)]) (ins:=[.v (zT x), .v (zT y)]) (hints:=(fun _=>none)) fo (by kernel_rfl) func135 ⟨rfl,rfl,trivial⟩ ?_
 rw [Wc]
 dsimp only [List.map,In.env,aB,aA]
 obtain ⟨la,hla⟩:∃ n,(bd x.natAbs).length = n:=⟨_,rfl⟩
 obtain ⟨lb,hlb⟩:∃ n,(bd y.natAbs).length = n:=⟨_,rfl⟩
 have hra:(bd x.natAbs).reverse.length = la:=by rw [List.length_reverse,hla]
 have hrb:(bd y.natAbs).reverse.length = lb:=by rw [List.length_reverse,hlb]
 have hsx:=BI x
 have hsy:=BI y
 refine vn (aO eI (List.length_map _)) rfl ?_
 dsimp only [aB,aA]
 refine vn (aO eI (List.length_map _)) rfl ?_
 dsimp only [aB,aA]
 refine vn (aE (by omega) (by omega)) rfl ?_
 dsimp only [aB,aA]
 rw [hla,hlb]
 refine Cb (n:=la + lb) (f:=fun d:Nat=>[aI.int .i64 (d:Int)]) 0 rfl rfl (by omega) rfl (by omega) (by simp only [maxLen]; omega) ?_
 dsimp only [aB,aA]
 refine vn (aO eI (List.length_map _)) rfl ?_
 dsimp only [aB,aA]
 refine vn (aG (by omega) (by omega)) rfl ?_
 dsimp only [aB,aA]
 rw [hla]
 refine bA {g:Nat × List Nat // DP 32768 (bd x.natAbs).reverse (bd y.natAbs).reverse g.1 g.2} (fun g=>[.one (.int .i64 ((la:Int) - 1 - g.1.1)), .rows (rB g.1.2.reverse)]) (fun g=>la - g.1.1) ⟨(0,List.replicate (la + lb) 0),by have:=DP.init (B:=32768) (by omega) (bd x.natAbs).reverse (bd y.natAbs).reverse; rw [hra,hrb] at this; exact this⟩ ⟨aH.Sub.of_eq (congrArg (fun q=>aH.one (aI.int .i64 q)) (by show (la:Int) - 1 = (la:Int) - 1 - ((0:Nat):Int); omega)),aH.Sub.of_eq (by rw [List.reverse_replicate]; rfl),trivial⟩ (fun _=>rfl) ?_
 rintro ⟨⟨i,os⟩,hO⟩
 dsimp only [aB,aA] at hO ⊢
 have hil:=hO.le
 rw [hra] at hil
 refine vn dJ rfl ?_
 dsimp only [aB,aA]
 refine vs _ rfl (fun h8=>?_) (fun h8=>?_)
 ·refine vn (aO eI (List.length_map _)) rfl ?_
  obtain ⟨d,hd1,hd2,hd3⟩:=Kn (n:=x.natAbs) (la:=la) (i:=i) hla.symm (by omega)
  dsimp only [aB,aA]
  refine vn (aG (by omega) (by omega)) rfl ?_
  dsimp only [aB,aA]
  rw [hlb]
  refine bA {g:Nat × Nat × List Nat // Zj 32768 (bd x.natAbs).reverse (bd y.natAbs).reverse i d (val 32768 ((bd x.natAbs).reverse.take i) * val 32768 (bd y.natAbs).reverse) g.1 g.2.1 g.2.2} (fun g=>[.one (.int .i64 g.1.2.1), .one (.int .i64 ((lb:Int) - 1 - g.1.1)), .rows (rB g.1.2.2.reverse)]) (fun g=>lb - g.1.1) ⟨(0,0,os),hO.inn (by omega)⟩ ⟨aH.Sub.same,aH.Sub.of_eq (congrArg (fun q=>aH.one (aI.int .i64 q)) (by show (lb:Int) - 1 = (lb:Int) - 1 - ((0:Nat):Int); omega)),aH.Sub.same,trivial⟩ (fun _=>rfl) ?_
  rintro ⟨⟨k,c,os2⟩,hI⟩
  dsimp only [aB,aA] at hI ⊢
  have hkl:=hI.le
  have hol:=hI.len
  have hc1:=hI.c1
  rw [hrb] at hkl
  rw [hra,hrb] at hol
  refine vn dJ rfl ?_
  dsimp only [aB,aA]
  refine vs _ rfl (fun h13=>?_) (fun h13=>?_)
  ·refine vn (aE (by omega) (by omega)) rfl ?_
   dsimp only [aB,aA]
   refine vn (aE (by omega) (by omega)) rfl ?_
   dsimp only [aB,aA]
   obtain ⟨e,he1,he2,he3⟩:=Kn (n:=y.natAbs) (la:=lb) (i:=k) hlb.symm (by omega)
   obtain ⟨o,ho2⟩:∃ o,os2[i + k]? = some o:=⟨_,List.getElem?_eq_getElem (by omega)⟩
   have ho1:os2.reverse[la + lb - 1 - (i + k)]? = some o:=by
    have:=BG (ds:=os2.reverse) (i:=i + k) (by rw [List.length_reverse]; omega)
    rw [List.reverse_reverse,List.length_reverse,hol] at this
    rw [this]; exact ho2
   have hoB:=hI.dg.get ho2
   have hde:d * e ≤ 32767 * 32767:=Nat.mul_le_mul (by omega) (by omega)
   have hst:∀ z,os2.reverse.set (la + lb - 1 - (i + k)) z = (os2.set (i + k) z).reverse:=fun z=>by rw [← hol]; exact FJ (by omega)
   obtain ⟨w,hw⟩:∃ w,c + (d * e + o) = w:=⟨_,rfl⟩
   have hN:=hI.next (z:=w % 32768) (c':=w / 32768) (by rw [hrb]; omega) he2 ho2 (by omega) (by omega) (by omega)
   refine cY rfl rfl (by omega) (by rw [List.length_reverse]; omega) ?_
   refine pJ rfl rfl (by omega) (by omega) ho1 rfl ?_
   dsimp only [aB,aA]
   refine vn (aR eI (by omega) (by omega) hd1) rfl ?_
   dsimp only [aB,aA]
   refine vn (bB Nt) rfl ?_
   dsimp only [aB,aA]
   refine vn (aR eI (by omega) (by omega) he1) rfl ?_
   dsimp only [aB,aA]
   refine vn (bB Nt) rfl ?_
   dsimp only [aB,aA]
   refine vn (qS (c:=((d * e:Nat):Int)) (by rw [← Int.natCast_mul]; exact dI (by omega) (by omega))) rfl ?_
   dsimp only [aB,aA]
   refine vn (aE (by omega) (by omega)) rfl ?_
   dsimp only [aB,aA]
   refine vn (dK (c:=(w:Int)) (by rw [show (o:Int) + ((d * e:Nat):Int) + (c:Int) = (w:Int) by omega]; exact dI (by omega) (by omega))) rfl ?_
   dsimp only [aB,aA]
   refine vn (aE (by omega) (by omega)) rfl ?_
   dsimp only [aB,aA]
   refine vn (aE (by omega) (by omega)) rfl ?_
   dsimp only [aB,aA]
   refine vn (eS (by omega) (by omega)) rfl ?_
   dsimp only [aB,aA]
   refine cY rfl rfl (by omega) (by rw [List.length_reverse]; omega) ?_
   refine mC (d':=w % 32768) rfl rfl (by omega) (by omega) ho1 rfl ?_
   rw [hst]
   dsimp only [aB,aA]
   refine vn (gL (by omega) (by omega) (by omega)) rfl ?_
   dsimp only [aB,aA]
   refine vn (aG (by omega) (by omega)) rfl ?_
   dsimp only [aB,aA]
   exact aP rfl ⟨⟨(k + 1,w / 32768,os2.set (i + k) (w % 32768)),hN⟩,⟨aH.Sub.same,aH.Sub.of_eq (congrArg (fun q=>aH.one (aI.int .i64 q)) (by show (lb:Int) - 1 - (k:Int) - 1 = (lb:Int) - 1 - ((k + 1:Nat):Int); omega)),aH.Sub.same,trivial⟩,by show lb - (k + 1) < lb - k; omega⟩
  have hke:k = lb:=by omega
  subst hke
  obtain ⟨o,ho2⟩:∃ o,os2[i + k]? = some o:=⟨_,List.getElem?_eq_getElem (by omega)⟩
  have ho1:os2.reverse[la + k - 1 - (i + k)]? = some o:=by
   have:=BG (ds:=os2.reverse) (i:=i + k) (by rw [List.length_reverse]; omega)
   rw [List.reverse_reverse,List.length_reverse,hol] at this
   rw [this]; exact ho2
  have hst:∀ z,os2.reverse.set (la + k - 1 - (i + k)) z = (os2.set (i + k) z).reverse:=fun z=>by rw [← hol]; exact FJ (by omega)
  have hN:DP 32768 (bd x.natAbs).reverse (bd y.natAbs).reverse (i + 1) (os2.set (i + k) c):=by
   have:=hI
   rw [← hrb] at this ⊢
   exact this.out hd2
  refine cY rfl rfl (by omega) (by rw [List.length_reverse]; omega) ?_
  refine mC (d':=c) rfl rfl (by omega) (by omega) ho1 rfl ?_
  rw [hst]
  dsimp only [aB,aA]
  refine vn (aG (by omega) (by omega)) rfl ?_
  dsimp only [aB,aA]
  exact aP rfl ⟨⟨(i + 1,os2.set (i + k) c),hN⟩,⟨aH.Sub.of_eq (congrArg (fun q=>aH.one (aI.int .i64 q)) (by show (la:Int) - 1 - (i:Int) - 1 = (la:Int) - 1 - ((i + 1:Nat):Int); omega)),aH.Sub.same,trivial⟩,by show la - (i + 1) < la - i; omega⟩
 have hie:i = la:=by omega
 subst hie
 have hf:val 32768 os = x.natAbs * y.natAbs:=by
  have:=hO
  rw [← hra] at this
  have:=this.fin
  rw [val_rev,val_rev] at this; exact this
 have hol:=hO.len
 rw [hra,hrb] at hol
 have hmul:x.sign * y.sign = (x * y).sign:=(Int.sign_mul x y).symm
 have hsb:=BI (x * y)
 refine vn (qS (c:=(x * y).sign) (by rw [hmul]; exact dI (by omega) (by omega))) rfl ?_
 dsimp only [aB,aA]
 refine aC (fL (x * y).sign (x * y) os.reverse hO.dg.rev (by rw [List.length_reverse]; omega) (by rw [bv,List.reverse_reverse,hf,Int.natAbs_mul]) (fun _=>rfl)) rfl ?_
 dsimp only [aB,aA]
 exact aK rfl
end Go.Sy
