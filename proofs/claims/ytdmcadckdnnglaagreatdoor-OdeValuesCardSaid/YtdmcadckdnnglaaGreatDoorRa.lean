/- Part. -/
import Derived.Test.YtdmcadckdnnglaaGreatDoorNb
set_option linter.all false
namespace Go.Sy
open Go Go.Proofs Tryz Ord
def LB:Tr:=.ret [(W 1 0)]
def bm0:Tr:=.split (.u 3 0) (.need (.prim [(W 1 0),(WK 0)] none) (.indexAddr 45 (tT 7) (.const (I3 0))) 0 false (dR 4 0 none 3 8 (aW .eql 3 9 0 5 0 4 (.split (.u 6 0) (.need (.prim [(W 1 0),(WK 1)] none) (.slice 45 (tT 12) (some (.const (I3 1))) none none) 45 false (.back 0 [lV 7 0])) LB)))) LB
def bt7:Tr:=.loop 0 [lV 0 0] (cU 1 0 3 45 (aW .gtr 3 4 0 2 0 4 bm0))
theorem Xt:aL prog f260 (fun _=>none) [.v none]=bt7:=by kernel_rfl
def bu7:Tr:=aJ 260 [(W 1 0)] [none] [5] [45] 45 true (cU 2 0 7 45 (aW .eql 3 8 0 3 0 4 (.split (.u 4 0) (.ret [(.agg [(tE (.int .i64 0)),tN])]) (.ret [(.agg [(U 0 0),(U 2 0)])]))))
theorem Yl:aL prog f211 (fun _=>none) [.v none, .v none]=bu7:=by kernel_rfl
def bp0:Tr:=aW .lss 3 12 0 5 0 4 (.split (.u 6 0) (.need (.prim [(W 5 0)] none) (.unOp .neg 3 (tT 14)) 3 false (.need (.lit 1 [[(.u 7 0)]]) (.buildSlice 45 1 #[(0,(tT 16))]) 45 false (.need (.app 1 8 (some 8) none (some 3)) (.call ⟨.builtin .append,#[(tT 17),(tT 18)],#[45,45]⟩) 45 false (aW .quo 2 20 32768 2 0 2 (.back 0 [lV 10 0, .row 9]))))) (.need (.lit 1 [[(.u 5 0)]]) (.buildSlice 45 1 #[(0,(tT 16))]) 45 false (.need (.app 1 8 (some 7) none (some 3)) (.call ⟨.builtin .append,#[(tT 17),(tT 18)],#[45,45]⟩) 45 false (aW .quo 2 20 32768 2 0 2 (.back 0 [lV 9 0, .row 8])))))
def au1:Tr:=aW .rem 2 10 32768 2 0 2 bp0
def Ss:Tr:=.ret [(G2 5)]
def bk9:Tr:=aW .lss 2 6 0 0 0 4 (.split (.u 1 0) (.loop 0 [lV 0 0, .nilrow] (aW .neq 2 8 0 2 0 4 (.split (.u 4 0) au1 (aJ 211 [(WK (-1)),(.one (.c (.sr 1 3)))] [(some 2)] [22,23] [3,45] 47 true Ss)))) (.loop 0 [lV 0 0, .nilrow] (aW .neq 2 8 0 2 0 4 (.split (.u 4 0) au1 (aJ 211 [(WK 1),(.one (.c (.sr 1 3)))] [(some 2)] [22,23] [3,45] 47 true Ss)))))
theorem Ya:aL prog f139 (fun _=>none) [.v none]=bk9:=by kernel_rfl
def av8:Tr:=.ret [(WK (-1))]
def as6:Tr:=.ret [(WK 1)]
def aE4:Tr:=dR 14 0 none 3 33 (eN 1 0 6 0 45 35 36 (dR 16 0 none 3 37 (bO .gtr 3 34 38 15 0 17 0 4 (.split (.u 18 0) as6 (aW .add 3 20 1 6 0 3 (.back 0 [lV 5 0,lV 19 0]))))))
def aC7:Tr:=eN 0 0 6 0 45 22 23 (dR 9 0 none 3 24 (eN 1 0 6 0 45 26 27 (dR 11 0 none 3 28 (bO .lss 3 25 29 10 0 12 0 4 (.split (.u 13 0) av8 (eN 0 0 6 0 45 31 32 aE4))))))
def Si:Tr:=.ret [(WK 0)]
def bl8:Tr:=cU 1 0 8 45 (bO .neq 3 7 9 2 0 3 0 4 (.split (.u 4 0) (cU 0 0 11 45 (cU 1 0 13 45 (bO .lss 3 12 14 5 0 6 0 4 (.split (.u 7 0) av8 as6)))) (.loop 0 [lK 0,lK 0] (cU 0 0 17 45 (bO .lss 3 16 18 6 0 7 0 4 (.split (.u 8 0) aC7 Si))))))
def bs2:Tr:=cU 0 0 6 45 bl8
theorem WX:aL prog f215 (fun _=>none) [.v none, .v none]=bs2:=by kernel_rfl
def bu9:Tr:=.split (.u 3 0) Si (cU 0 0 10 45 (aW .sub 3 11 1 4 0 3 (bO .sub 3 12 13 5 0 1 0 3 (eN 0 0 6 0 45 9 14 (dR 7 0 none 3 15 (.ret [(W 8 0)]))))))
def bg9:Tr:=cU 0 0 6 45 (bO .geq 3 5 7 1 0 2 0 4 bu9)
theorem Sm:aL prog f263 (fun _=>none) [.v none, .v none]=bg9:=by kernel_rfl
def aw6:Tr:=.ret [(W 5 0)]
def bk5:Tr:=cU 0 0 5 45 (cU 1 0 7 45 (bO .gtr 3 6 8 2 0 3 0 4 (.split (.u 4 0) (cU 0 0 10 45 aw6) (cU 1 0 12 45 aw6))))
theorem MV:aL prog f262 (fun _=>none) [.v none, .v none]=bk5:=by kernel_rfl
def aH4:Tr:=aW .sub 3 40 32768 16 0 3 (aW .sub 3 43 1 4 0 3 (bO .sub 3 44 45 19 0 7 0 3 (.need (.idx 8 (.u 20 0)) (.indexAddr 45 (tT 42) (tT 46)) 0 false (.need (.strow 8 1 (.u 20 0) 0 [(.u 18 0)]) (.store 3 (tT 48) (tT 47)) 0 false (aW .add 3 21 1 7 0 3 (.back 0 [lK 1,lV 22 0, .row 21]))))))
def aL2:Tr:=.split (.u 17 0) aH4 (aW .sub 3 43 1 4 0 3 (bO .sub 3 44 45 18 0 7 0 3 (.need (.idx 8 (.u 19 0)) (.indexAddr 45 (tT 42) (tT 46)) 0 false (.need (.strow 8 1 (.u 19 0) 0 [(.u 16 0)]) (.store 3 (tT 48) (tT 47)) 0 false (aW .add 3 21 1 7 0 3 (.back 0 [lK (-1),lV 21 0, .row 20]))))))
def aW9:Tr:=aW .sub 3 40 32768 14 0 3 (aW .sub 3 43 1 4 0 3 (bO .sub 3 44 45 18 0 7 0 3 (.need (.idx 8 (.u 19 0)) (.indexAddr 45 (tT 42) (tT 46)) 0 false (.need (.strow 8 1 (.u 19 0) 0 [(.u 17 0)]) (.store 3 (tT 48) (tT 47)) 0 false (aW .add 3 21 1 7 0 3 (.back 0 [lK 1,lV 21 0, .row 20]))))))
def aY5:Tr:=.split (.u 16 0) aW9 (aW .sub 3 43 1 4 0 3 (bO .sub 3 44 45 17 0 7 0 3 (.need (.idx 8 (.u 18 0)) (.indexAddr 45 (tT 42) (tT 46)) 0 false (.need (.strow 8 1 (.u 18 0) 0 [(.u 14 0)]) (.store 3 (tT 48) (tT 47)) 0 false (aW .add 3 21 1 7 0 3 (.back 0 [lK 0,lV 20 0, .row 19]))))))
def by8:Tr:=bO .mul 3 26 29 2 0 11 0 3 (bO .add 3 25 30 10 0 12 0 3 (bO .add 3 31 32 13 0 6 0 3 (aW .lss 3 34 0 14 0 4 (.split (.u 15 0) (aW .add 3 36 32768 14 0 3 (aW .geq 3 38 32768 16 0 4 aL2)) (aW .geq 3 38 32768 14 0 4 aY5)))))
def bt4:Tr:=aW .add 3 14 1 3 0 3 (.need (.make [(.int .i64 0)] 8 (.u 4 0) (.u 4 0)) (.makeSlice 45 (tT 16) (tT 16)) 45 false (.loop 0 [lK 0,lK 0, .row 5] (bO .lss 3 18 19 7 0 4 0 4 (.split (.u 9 0) (aJ 263 [(W 0 0),(W 7 0)] [none] [23,24] [45,3] 3 false (aJ 263 [(W 1 0),(W 7 0)] [none] [27,28] [45,3] 3 false by8)) (aJ 260 [(.one (.c (.sr 1 8)))] [none] [49] [45] 45 true (.ret [(W 10 0)]))))))
def bi6:Tr:=aJ 262 [(W 0 0),(W 1 0)] [none] [12,13] [45,45] 3 true bt4
theorem ap0:aL prog f214 (fun _=>none) [.v none, .v none, .v none]=bi6:=by kernel_rfl
def aw5:Tr:=.ret [(.agg [(U 1 0),(U 0 1)])]
def bv0:Tr:=.need (.prim [(W 0 0)] none) (.unOp .neg 3 (tT 4)) 3 false aw5
theorem al5:aL prog f183 (fun _=>none) [.v (some 2)]=bv0:=by kernel_rfl
def bA8:Tr:=bO .mul 3 4 6 0 0 0 0 3 aw5
theorem Za:aL prog f148 (fun _=>none) [.v (some 2)]=bA8:=by kernel_rfl
def Nt:Tr:=.ret [(G2 8)]
def bo7:Tr:=bO .eql 3 14 16 0 0 1 0 4 (.split (.u 4 0) (.need (.call 214 [(W 0 1),(W 1 1),(WK 1)] [none]) (.call ⟨.value (.func 214),#[(tT 21),(tT 23),(.const (I3 1))],#[45,45,3]⟩) 45 true (aJ 211 [(W 0 0),(W 5 0)] [(some 2)] [19,24] [3,45] 47 true (.ret [(G2 6)]))) (aJ 215 [(W 0 1),(W 1 1)] [none] [27,29] [45,45] 3 true (aW .geq 3 30 0 5 0 4 (.split (.u 6 0) (.need (.call 214 [(W 0 1),(W 1 1),(WK (-1))] [none]) (.call ⟨.value (.func 214),#[(tT 35),(tT 37),(.const (I3 (-1)))],#[45,45,3]⟩) 45 true (aJ 211 [(W 0 0),(W 7 0)] [(some 2)] [33,38] [3,45] 47 true Nt)) (.need (.call 214 [(W 1 1),(W 0 1),(WK (-1))] [none]) (.call ⟨.value (.func 214),#[(tT 43),(tT 45),(.const (I3 (-1)))],#[45,45,3]⟩) 45 true (aJ 211 [(W 1 0),(W 7 0)] [(some 2)] [41,46] [3,45] 47 true Nt))))))
def bf5:Tr:=aW .eql 3 6 0 0 0 4 (.split (.u 2 0) (.ret [(G2 1)]) (aW .eql 3 10 0 1 0 4 (.split (.u 3 0) (.ret [(G2 0)]) bo7)))
theorem aq5:aL prog f138 (fun _=>none) [.v (some 2), .v (some 2)]=bf5:=by kernel_rfl
def bo2:Tr:=aJ 183 [(G2 1)] [(some 2)] [6] [47] 47 true (aJ 138 [(G2 0),(G2 2)] [(some 2)] [5,7] [47,47] 47 true (.ret [(G2 3)]))
theorem Zd:aL prog f210 (fun _=>none) [.v (some 2), .v (some 2)]=bo2:=by kernel_rfl
def aF2:Tr:=aW .add 3 58 1 27 0 3 (aW .rem 3 60 32768 26 0 3 (.need (.idx 15 (.u 28 0)) (.indexAddr 45 (tT 55) (tT 59)) 0 false (.need (.strow 15 1 (.u 28 0) 0 [(.u 29 0)]) (.store 3 (tT 62) (tT 61)) 0 false (aW .quo 3 63 32768 26 0 3 (aW .sub 3 32 1 14 0 3 (.back 1 [lV 31 0,lV 32 0, .row 30]))))))
def aJ3:Tr:=dR 20 0 none 3 44 (eN 1 1 14 0 45 47 48 (dR 22 0 none 3 49 (bO .mul 3 45 50 21 0 23 0 3 (bO .add 3 40 51 19 0 24 0 3 (bO .add 3 52 53 25 0 13 0 3 (bO .add 3 56 57 8 0 14 0 3 aF2))))))
def ay8:Tr:=aW .geq 3 30 0 14 0 4 (.split (.u 16 0) (bO .add 3 35 36 8 0 14 0 3 (aW .add 3 37 1 17 0 3 (.need (.idx 15 (.u 18 0)) (.indexAddr 45 (tT 34) (tT 38)) 0 false (.need (.ldrow 15 (.u 18 0) 0 1 false) (.load 3 (tT 39)) 3 false (eN 0 1 8 0 45 42 43 aJ3))))) (.need (.idx 15 (.u 8 0)) (.indexAddr 45 (tT 65) (tT 66)) 0 false (.need (.strow 15 1 (.u 8 0) 0 [(.u 13 0)]) (.store 3 (tT 68) (tT 67)) 0 false (aW .sub 3 24 1 8 0 3 (.back 0 [lV 18 0, .row 17])))))
def bf3:Tr:=aW .sub 3 20 1 6 0 3 (.loop 0 [lV 7 0, .row 5] (aW .geq 3 22 0 8 0 4 (.split (.u 10 0) (cU 1 1 27 45 (aW .sub 3 28 1 11 0 3 (.loop 1 [lK 0,lV 12 0, .row 9] ay8))) (bO .mul 3 70 72 0 0 1 0 3 (aJ 211 [(W 11 0),(.one (.c (.sr 1 9)))] [(some 2)] [73,74] [3,45] 47 true (.ret [(G2 12)]))))))
def bx9:Tr:=cU 0 1 11 45 (cU 1 1 14 45 (bO .add 3 12 15 2 0 3 0 3 (.need (.make [(.int .i64 0)] 8 (.u 4 0) (.u 4 0)) (.makeSlice 45 (tT 16) (tT 16)) 45 false (cU 0 1 19 45 bf3))))
theorem Yp:aL prog f135 (fun _=>none) [.v (some 2), .v (some 2)]=bx9:=by kernel_rfl
def bw0:Tr:=aJ 210 [(G2 0),(G2 1)] [(some 2)] [5,6] [47,47] 47 true (.ret [(W 2 0)])
theorem ae1:aL prog f134 (fun _=>none) [.v (some 2), .v (some 2)]=bw0:=by kernel_rfl
abbrev rB (ds:List Nat):List (List aG):=ds.map fun (d:Nat)=>[aG.int .i64 (d:Int)]
abbrev sB (ds:List Nat):aG:=.slice 1 (rB ds)
abbrev bT (n:Nat):aG:=sB (bd n)
abbrev zC (z:Int):List aG:=[.int .i64 z.sign,bT z.natAbs]
abbrev zT (z:Int):aE:=.agg (zC z)
theorem Sc:DB 32768 []:=fun d hd=>by cases hd
theorem rJ {n:Nat} (h:n=0):aG.Sub (.exact (.slice none 0 0)) (bT n):=by
 subst h;rw [bT,CA];exact aG.Sub.nil
theorem sliceB {ds:List Nat} {x:Operand} {ty:Nat} {y:Operand} {k:IntKind} {n:Int} {m:Nat} (hm:n.toNat=m) (h0:0≤n:=by omega) (hn:m≤ds.length:=by omega):bA prog (.slice 45 x (some y) none none) ty [.one (sB ds), .one (.int k n)] (.one (sB (ds.drop m))):=by
 have:=Hi (P:=prog) (T:=45) (x:=x) (y:=y) (ty:=ty) (k:=k) (n:=n) (ts:=rB ds) fL h0 (by rw [aP,hm];exact hn);rw [hm,rB,←List.map_drop] at this;exact this
theorem XV {ds:List Nat} {x:Operand} {ty:Nat} {y:Operand} {k:IntKind} {n:Int} {m:Nat} (h0:0≤n:=by omega) (hm:n.toNat=m:=by omega) (hn:m≤ds.length:=by omega):bA prog (.slice 45 x none (some y) none) ty [.one (sB ds), .one (.int k n)] (.one (sB (ds.take m))):=by
 have:=Gg (P:=prog) (T:=45) (x:=x) (y:=y) (ty:=ty) (k:=k) (n:=n) (ts:=rB ds) fL h0 (by rw [aP,hm];exact hn);rw [hm,rB,←List.map_take] at this;exact this
theorem vC (ds:List Nat) (hd:DB 32768 ds) (hs:ds.length<4611686018427387904:=by omega):aM prog 260 [(.one (sB ds):aE)] (.ret [.one (bT (bv ds))]):=by
 refine bZ func260 Xt ?_;refine bB {xs:List Nat // DB 32768 xs∧bv xs=bv ds∧xs.length≤ds.length} (fun g=>[.one (sB g.1)]) (fun g=>g.1.length) ⟨ds,hd,rfl,bC _⟩ aN.rfl (fun _=>rfl) ?_;rintro ⟨xs,hx,hv,hl⟩;dsimp only [aD,aC] at hx hv hl ⊢;apply vn (aU fL (aP _)) rfl;apply vn dH rfl;refine vs _ rfl ?_ ?_<;>intro h3
 ·obtain ⟨d,hget⟩:∃ d,xs[0]? = some d:=⟨_,bI (by omega)⟩
  apply vn (aV fL hget) rfl;dsimp only [aD,aC];apply vn (bG Pr) rfl;apply vn bK rfl;refine vs _ rfl ?_ ?_<;>intro h7
  ·apply vn (sliceB rfl) rfl
   exact aR rfl ⟨⟨xs.drop 1,hx.drop 1,by
    have h7:d=0:=by omega
    rw [←hv,QF hget,h7,Nat.mul_zero,Nat.add_zero],by show (xs.drop 1).length≤_;rw [List.length_drop];omega⟩,aN.rfl,by show (xs.drop 1).length<xs.length;rw [List.length_drop];omega⟩
  have e:bd (bv ds)=xs:=by
   rw [←hv];refine bg8 hx fun d' h'=>?_;rw [List.head?_eq_getElem?,hget] at h';simp only [aO] at h';subst h';omega
  rw [bT,e];exact aK rfl
 have e:bd (bv ds)=xs:=by
  have:xs = []:=List.eq_nil_of_length_eq_zero (by omega);rw [←hv,this];exact CA
 rw [bT,e];exact aK rfl
theorem fV (s z:Int) (ds:List Nat) (hd:DB 32768 ds) (h1:z.natAbs=bv ds) (h2:bv ds≠0→z.sign=s) (hs:ds.length<4611686018427387904:=by omega):aM prog 211 [(.one (.int .i64 s):aE),(.one (sB ds):aE)] (.ret [zT z]):=by
 refine bZ func211 Yl ?_;have hlen:(bd (bv ds)).length=0↔bv ds=0:=by rw [List.length_eq_zero_iff,EA]
 have hl2:(bd (bv ds)).length≤ds.length:=jU (KG hd);apply aA (vC ds hd hs) rfl;apply vn (aU fL (aP _)) rfl;apply vn bK rfl;dsimp only [aD,aC];refine vs _ rfl ?_ ?_<;>intro h3
 ·have hz:z=0:=by
   have:=hlen.1 (by omega);omega
  subst hz;exact dA ⟨⟨aG.Sub.same,rJ rfl,trivial⟩,trivial⟩
 refine aK ?_;rw [←h2 (fun h=>h3 (by have:=hlen.2 h;omega)),←h1];rfl
theorem Jz {ds:List Nat} {m n:Nat} (hm:m≠0) (h:bv ds+32768^ds.length*m=n) (hn:n<18446744073709551616:=by omega):ds.length≤4:=by
 rcases Nat.lt_or_ge ds.length 5 with h1 | h1
 ·omega
 ·have h2:32768^5≤32768^ds.length:=Nat.pow_le_pow_right (by omega) h1;have h3:32768^ds.length≤32768^ds.length*m:=Nat.le_mul_of_pos_right _ (by omega);omega
theorem Bg {ds:List Nat} {m n:Nat} (h:bv ds+32768^ds.length*m=n):bv (m%32768::ds)+32768^(m%32768::ds).length*(m/32768)=n:=by
 rw [Cw,List.length_cons,Nat.pow_succ,Nat.add_assoc,Nat.mul_assoc,←Nat.mul_add,Nat.mod_add_div];exact h
theorem neg_tmod {m:Nat}:(-(m:Int)).tmod 32768 = -((m%32768:Nat):Int):=by rw [Int.neg_tmod,Int.tmod_eq_emod_of_nonneg (by omega)];omega
theorem neg_tdiv {m:Nat}:(-(m:Int)).tdiv 32768 = -((m/32768:Nat):Int):=by rw [Int.neg_tdiv,Int.tdiv_eq_ediv_of_nonneg (by omega)];omega
theorem iL (n:Int) (h1:-9223372036854775808≤n:=by omega) (h2:n<9223372036854775808:=by omega):aM prog 139 [(.one (.int .i64 n):aE)] (.ret [zT n]):=by
 refine bZ func139 Ya ?_;apply vn aZ rfl;refine vs _ rfl (fun h1=>?_) (fun h1'=>?_)
 ·refine bB {g:Nat×List Nat // bv g.2+32768^g.2.length*g.1=n.natAbs∧DB 32768 g.2∧g.1≤9223372036854775808∧g.2.length≤5} (fun g=>[.one (.int .i64 (-(g.1.1:Int))), .rows (rB g.1.2)]) (fun g=>g.1.1) ⟨(n.natAbs,[]),by simp [bv,val],Sc,by show n.natAbs≤_;omega,by simp⟩ ⟨aE.Sub.of_eq (congrArg (fun q=>aE.one (aG.int .i64 q)) (by show n = -((n.natAbs:Nat):Int);omega)),aE.Sub.same,trivial⟩ (fun _=>rfl) ?_;rintro ⟨⟨m,ds⟩,hv,hd,hm,hl⟩;dsimp only [aD,aC] at hv hd hm hl ⊢;apply vn gD rfl;refine vs _ rfl ?_ ?_<;>intro h4
  ·have hm0:m≠0:=by omega
   have hl4:=Jz hm0 hv
   have hd2:DB 32768 (m%32768::ds):=fun d hd'=>by
    rcases List.mem_cons.1 hd' with rfl | hd'
    ·omega
    ·exact hd d hd'
   apply vn (Es (c:=-((m%32768:Nat):Int)) (by decide) neg_tmod) rfl;apply vn aZ rfl;dsimp only [aD,aC];refine vs _ rfl ?_ ?_<;>intro h7
   ·apply vn (GG) rfl;dsimp only [aD,aC];refine bP (us:=rB [m%32768]) (by show [[aG.int .i64 _]] = [[aG.int .i64 _]];congr 3;omega) ?_;refine qQ (ts:=rB [m%32768]) (us:=rB ds) (vs:=rB (m%32768::ds)) rfl rfl rfl (by simp;omega) (by simp [maxLen];omega) ?_;apply vn (rN (c:=-((m/32768:Nat):Int)) (by decide) (by rw [neg_tdiv];exact eE)) rfl;dsimp only [aD,aC];exact aR rfl ⟨⟨(m/32768,m%32768::ds),Bg hv,hd2,by show m/32768≤_;omega,by show ds.length+1≤5;omega⟩,aN.rfl,by show m/32768<m;omega⟩
   refine bP (us:=rB [m%32768]) (by show [[aG.int .i64 _]] = [[aG.int .i64 _]];congr 3;omega) ?_;refine qQ (ts:=rB [m%32768]) (us:=rB ds) (vs:=rB (m%32768::ds)) rfl rfl rfl (by simp;omega) (by simp [maxLen];omega) ?_;apply vn (rN (c:=-((m/32768:Nat):Int)) (by decide) (by rw [neg_tdiv];exact eE)) rfl;dsimp only [aD,aC];exact aR rfl ⟨⟨(m/32768,m%32768::ds),Bg hv,hd2,by show m/32768≤_;omega,by show ds.length+1≤5;omega⟩,aN.rfl,by show m/32768<m;omega⟩
  have hm0:m=0:=by omega
  subst hm0;rw [Nat.mul_zero,Nat.add_zero] at hv;apply aA (fV (-1) n ds hd hv.symm (fun _=>Int.sign_eq_neg_one_of_neg h1)) rfl;exact aK rfl
 refine bB {g:Nat×List Nat // bv g.2+32768^g.2.length*g.1=n.natAbs∧DB 32768 g.2∧g.1≤9223372036854775808∧g.2.length≤5∧g.1<9223372036854775808} (fun g=>[.one (.int .i64 (g.1.1:Int)), .rows (rB g.1.2)]) (fun g=>g.1.1) ⟨(n.natAbs,[]),by simp [bv,val],Sc,by show n.natAbs≤_;omega,by simp,by show n.natAbs<_;omega⟩ ⟨aE.Sub.of_eq (congrArg (fun q=>aE.one (aG.int .i64 q)) (by show n=((n.natAbs:Nat):Int);omega)),aE.Sub.same,trivial⟩ (fun _=>rfl) ?_;rintro ⟨⟨m,ds⟩,hv,hd,hm,hl,hmm⟩;dsimp only [aD,aC] at hv hd hm hl hmm ⊢;apply vn gD rfl;refine vs _ rfl ?_ ?_<;>intro h21
 ·have hm0:m≠0:=by omega
  have hl4:=Jz hm0 hv
  have hd2:DB 32768 (m%32768::ds):=fun d hd'=>by
   rcases List.mem_cons.1 hd' with rfl | hd'
   ·omega
   ·exact hd d hd'
  apply vn (eP) rfl;apply vn aZ rfl;dsimp only [aD,aC];refine vs _ rfl ?_ ?_<;>intro h24
  ·exfalso;omega
  refine bP (us:=rB [m%32768]) (by show [[aG.int .i64 _]] = [[aG.int .i64 _]];congr 3) ?_;refine qQ (ts:=rB [m%32768]) (us:=rB ds) (vs:=rB (m%32768::ds)) rfl rfl rfl (by simp;omega) (by simp [maxLen];omega) ?_;apply vn (gV) rfl;dsimp only [aD,aC];exact aR rfl ⟨⟨(m/32768,m%32768::ds),Bg hv,hd2,by show m/32768≤_;omega,by show ds.length+1≤5;omega,by show m/32768<_;omega⟩,aN.rfl,by show m/32768<m;omega⟩
 have hm0:m=0:=by omega
 subst hm0;rw [Nat.mul_zero,Nat.add_zero] at hv;apply aA (fV 1 n ds hd hv.symm (fun h=>Int.sign_eq_one_of_pos (by omega))) rfl;exact aK rfl
theorem JW {xs ys:List Nat} (hx:DB 32768 xs) {i x y:Nat} (hl:xs.length=ys.length) (hi:xs[i]? = some x) (hj:ys[i]? = some y) (ht:xs.take i=ys.take i) (hxy:x<y:=by omega):bv xs<bv ys:=by
 have e:∀ (zs:List Nat) (z:Nat),zs[i]? = some z→bv zs=bv (zs.take i)*32768^(zs.length-i)+(bv (zs.drop (i+1))+32768^(zs.length-(i+1))*z):=fun zs z hz=>by
  have hlt:i<zs.length:=(eF.1 hz).1
  conv=>lhs;rw [←List.take_append_drop i zs]
  rw [Qf,List.length_drop]
  congr 1
  rw [List.drop_eq_getElem_cons hlt,(eF.1 hz).2,Cw,List.length_drop]
 rw [e xs x hi,e ys y hj,ht,hl];have h1:=KG (hx.drop (i+1));rw [List.length_drop,hl] at h1;have h2:32768^(ys.length-(i+1))*(x+1)≤32768^(ys.length-(i+1))*y:=Nat.mul_le_mul_left _ hxy;rw [Nat.mul_add,Nat.mul_one] at h2;omega
theorem xQ {a b:Nat} (h:(bd a).length<(bd b).length:=by omega):a<b:=by
 rcases Nat.lt_or_ge a b with h1 | h1
 ·exact h1
 ·have:=eA h1;omega
theorem sA (a b:Nat) (hs:(bd a).length+(bd b).length<1099511627776:=by omega):aM prog 215 [(.one (bT a):aE),(.one (bT b):aE)] (.ret [.one (.int .i64 (fI a b))]):=by
 refine bZ func215 WX ?_;apply vn (aU fL (aP _)) rfl;apply vn (aU fL (aP _)) rfl;apply vn gD rfl;dsimp only [aD,aC];refine vs _ rfl ?_ ?_<;>intro h3
 ·apply vn (aU fL (aP _)) rfl;apply vn (aU fL (aP _)) rfl;apply vn aZ rfl;dsimp only [aD,aC];refine vs _ rfl ?_ ?_<;>intro h7
  ·rw [vT (by have:=xQ (a:=a) (b:=b);omega)];exact aK rfl
  rw [vU (by have:=xQ (a:=b) (b:=a);omega)];exact aK rfl
 have hlen:(bd a).length=(bd b).length:=by omega
 refine bB {i:Nat // i≤(bd a).length∧(bd a).take i=(bd b).take i} (fun g=>[.one (.int .i64 0), .one (.int .i64 g.1)]) (fun g=>(bd a).length-g.1) ⟨0,bV _,rfl⟩ aN.rfl (fun _=>rfl) ?_;rintro ⟨i,hi,ht⟩;dsimp only [aD,aC] at hi ht ⊢;apply vn (aU fL (aP _)) rfl;apply vn aZ rfl;refine vs _ rfl ?_ ?_<;>intro h13
 ·obtain ⟨x,hx⟩:∃ x,(bd a)[i]? = some x:=⟨_,bI (by omega)⟩
  obtain ⟨y,hy⟩:∃ y,(bd b)[i]? = some y:=⟨_,bI (by omega)⟩
  apply vn (aV fL hx) rfl;dsimp only [aD,aC];apply vn (bG Pr) rfl;apply vn (aV fL hy) rfl;apply vn (bG Pr) rfl;dsimp only [aD,aC];apply vn aZ rfl;refine vs _ rfl ?_ ?_<;>intro h19
  ·have:=JW (gX a) hlen hx hy ht;rw [fD,fD] at this;rw [vT (by omega)];exact aK rfl
  apply vn (aV fL hx) rfl;apply vn (bG Pr) rfl;dsimp only [aD,aC];apply vn (aV fL hy) rfl;apply vn (bG Pr) rfl;apply vn dH rfl;dsimp only [aD,aC];refine vs _ rfl ?_ ?_<;>intro h26
  ·have:=JW (gX b) hlen.symm hy hx ht.symm;rw [fD,fD] at this;rw [vU (by omega)];exact aK rfl
  apply vn (aB) rfl;dsimp only [aD,aC];exact aR rfl ⟨⟨i+1,by omega,by rw [take_succ hx,take_succ hy,ht,show x=y by omega]⟩,aN.rfl,by show (bd a).length-(i+1)<(bd a).length-i;omega⟩
 have hie:i=(bd a).length:=by omega
 subst hie
 have e:bd a=bd b:=by
  rw [List.take_length,List.take_of_length_le (by omega)] at ht;exact ht
 have:a=b:=by rw [←fD a,e,fD]
 rw [this,Co];exact aK rfl
theorem DJ (n i:Nat) (hs:(bd n).length<1099511627776:=by omega) (hi:i<4611686018427387904:=by omega):aM prog 263 [(.one (bT n):aE),(.one (.int .i64 i):aE)] (.ret [.one (.int .i64 ((n/32768^i%32768:Nat):Int))]):=by
 refine bZ func263 Sm ?_;have hdg:=IU n i;apply vn (aU fL (aP _)) rfl;apply vn fJ rfl;refine vs _ rfl ?_ ?_<;>intro h2
 ·rw [List.getElem?_eq_none_iff.2 (by rw [List.length_reverse];omega)] at hdg;rw [←hdg];exact aK rfl
 apply vn (aU fL (aP _)) rfl;dsimp only [aD,aC];apply vn (aH) rfl;apply vn (aH) rfl;dsimp only [aD,aC];obtain ⟨d,hd⟩:∃ d,(bd n).reverse[i]? = some d:=⟨_,bI (by rw [List.length_reverse];omega)⟩
 have hd2:(bd n)[(bd n).length-1-i]? = some d:=by rw [Cy];exact hd
 rw [hd] at hdg;apply vn (aV fL hd2) rfl;apply vn (bG Pr) rfl;dsimp only [aD,aC];rw [←hdg];exact aK rfl
theorem Mg (a b:Nat):aM prog 262 [(.one (bT a):aE),(.one (bT b):aE)] (.ret [.one (.int .i64 ((max (bd a).length (bd b).length:Nat):Int))]):=by
 refine bZ func262 MV ?_;apply vn (aU fL (aP _)) rfl;apply vn (aU fL (aP _)) rfl;apply vn dH rfl;dsimp only [aD,aC];refine vs _ rfl ?_ ?_<;>intro h3
 ·apply vn (aU fL (aP _)) rfl;dsimp only [aD,aC];refine aK ?_;show [aE.one (aG.int .i64 _)] = [aE.one (aG.int .i64 _)]
  congr 3;omega
 apply vn (aU fL (aP _)) rfl;dsimp only [aD,aC];refine aK ?_;show [aE.one (aG.int .i64 _)] = [aE.one (aG.int .i64 _)]
 congr 3;omega
theorem val_rev (n:Nat):val 32768 (bd n).reverse=n:=fD n
theorem IP (n i:Nat):(bd n).reverse[i]?.getD 0=n/32768^i%32768:=IU n i
set_option maxHeartbeats 1000000 in
theorem lO (a b r:Nat) (k:Int) (hk:k=1∨k = -1) (hs2:(bd b).length<274877906944:=by omega) (hr:(r:Int)=a+k*b:=by omega) (hs:(bd a).length<274877906944:=by omega):aM prog 214 [(.one (bT a):aE),(.one (bT b):aE),(.one (.int .i64 k):aE)] (.ret [.one (bT r)]):=by
 refine bZ func214 ap0 ?_;obtain ⟨n,hn⟩:∃ n,max (bd a).length (bd b).length+1=n:=⟨_,rfl⟩
 have hrl:r<32768^n:=by
  have h1:=DL a;have h2:=DL b;have h3:32768^(bd a).length≤32768^(n-1):=Nat.pow_le_pow_right (by omega) (by omega);have h4:32768^(bd b).length≤32768^(n-1):=Nat.pow_le_pow_right (by omega) (by omega);have h5:32768^n=32768^(n-1)*32768:=by rw [←Nat.pow_succ];congr 1;omega
  rcases hk with rfl | rfl<;>omega
 apply aA (Mg a b) rfl;apply vn (aB) rfl;dsimp only [aD,aC];refine DQ (n:=n) (f:=fun d:Nat=>[aG.int .i64 (d:Int)]) 0 rfl rfl (by omega) rfl (by omega) (by simp only [maxLen];omega) ?_;refine bB {g:Nat×Int×List Nat // FO 32768 (bd a).reverse (bd b).reverse n k g.1 g.2.1 g.2.2} (fun g=>[.one (.int .i64 g.1.2.1), .one (.int .i64 g.1.1), .rows (rB g.1.2.2.reverse)]) (fun g=>n-g.1.1) ⟨(0,0,List.replicate n 0),FO.init (by omega) _ _ _ _⟩ ⟨aE.Sub.same,aE.Sub.same,aE.Sub.of_eq (by rw [List.reverse_replicate];rfl),trivial⟩ (fun _=>rfl) ?_;rintro ⟨⟨i,c,os⟩,hI⟩;dsimp only [aD,aC] at hI ⊢;have hil:=hI.le;have hol:=hI.len;have hc0:=hI.c0;have hc1:=hI.c1;apply vn aZ rfl;refine vs _ rfl ?_ ?_<;>intro h5
 ·obtain ⟨x,hx⟩:∃ x,a/32768^i%32768=x:=⟨_,rfl⟩
  obtain ⟨y,hy⟩:∃ y,b/32768^i%32768=y:=⟨_,rfl⟩
  have hxB:x<32768:=by rw [←hx];exact Nat.mod_lt _ (by omega)
  have hyB:y<32768:=by rw [←hy];exact Nat.mod_lt _ (by omega)
  have hcall1:=DJ a i;have hcall2:=DJ b i;rw [hx] at hcall1;rw [hy] at hcall2
  have hnext:∀ (z:Nat) (c':Int),z<32768 → -1≤c'→c'≤1→(z:Int)+32768*c'=x+k*y+c→FO 32768 (bd a).reverse (bd b).reverse n k (i+1) c' (os.set i z):=fun z c' h1 h2 h3 h4=>
   hI.next (by omega) (by rw [IP,hx]) (by rw [IP,hy]) h2 h3 h1 h4
  have hst:∀ z,os.reverse.set (n-1-i) z=(os.set i z).reverse:=fun z=>by rw [←hol];exact HM (by omega)
  obtain ⟨o0,hgo⟩:∃ o0,os.reverse[n-1-i]? = some o0:=⟨_,bI (by rw [List.length_reverse];omega)⟩
  have hky:k*y=y∨k*y = -(y:Int):=by rcases hk with rfl | rfl<;>simp
  generalize hkyv:k*(y:Int)=ky at hnext hky;apply aA hcall1 rfl;apply aA hcall2 rfl;dsimp only [aD,aC];apply vn (tP (c:=ky) (by rw [hkyv];exact eE)) rfl;apply vn (aB) rfl;apply vn (aB) rfl;dsimp only [aD,aC];apply vn aZ rfl;refine vs _ rfl ?_ ?_<;>intro h12
  ·apply vn (aB) rfl;apply vn fJ rfl;dsimp only [aD,aC];refine vs _ rfl ?_ ?_<;>intro h15
   ·exfalso;omega
   apply vn (aH) rfl;apply vn (aH) rfl;refine dI rfl rfl (by omega) (by rw [List.length_reverse];omega) ?_;refine oJ (d':=(x+ky+c+32768).toNat) rfl rfl (by omega) (by omega) hgo (by show [aG.int .i64 _] = [aG.int .i64 _];congr 2;omega) ?_;rw [hst];dsimp only [aD,aC];apply vn (aB) rfl;dsimp only [aD,aC];exact aR rfl ⟨⟨(i+1,-1,os.set i (x+ky+c+32768).toNat),hnext _ (-1) (by omega) (by omega) (by omega) (by omega)⟩,aN.rfl,by show n-(i+1)<n-i;omega⟩
  apply vn fJ rfl;refine vs _ rfl ?_ ?_<;>intro h30
  ·apply vn (aH) rfl;apply vn (aH) rfl;dsimp only [aD,aC];apply vn (aH) rfl;refine dI rfl rfl (by omega) (by rw [List.length_reverse];omega) ?_;refine oJ (d':=(x+ky+c-32768).toNat) rfl rfl (by omega) (by omega) hgo (by show [aG.int .i64 _] = [aG.int .i64 _];congr 2;omega) ?_;rw [hst];apply vn (aB) rfl;dsimp only [aD,aC];exact aR rfl ⟨⟨(i+1,1,os.set i (x+ky+c-32768).toNat),hnext _ 1 (by omega) (by omega) (by omega) (by omega)⟩,aN.rfl,by show n-(i+1)<n-i;omega⟩
  apply vn (aH) rfl;apply vn (aH) rfl;refine dI rfl rfl (by omega) (by rw [List.length_reverse];omega) ?_;refine oJ (d':=(x+ky+c).toNat) rfl rfl (by omega) (by omega) hgo (by show [aG.int .i64 _] = [aG.int .i64 _];congr 2;omega) ?_;rw [hst];dsimp only [aD,aC];apply vn (aB) rfl;dsimp only [aD,aC];exact aR rfl ⟨⟨(i+1,0,os.set i (x+ky+c).toNat),hnext _ 0 (by omega) (by omega) (by omega) (by omega)⟩,aN.rfl,by show n-(i+1)<n-i;omega⟩
 have hie:i=n:=by omega
 subst hie;have hf:=hI.fin (by omega) (by rw [List.length_reverse];omega) (by rw [List.length_reverse];omega) (r:=r) (by rw [val_rev,val_rev];exact hr) hrl;apply aA (vC os.reverse hI.dg.rev (by rw [List.length_reverse];omega)) rfl;dsimp only [aD,aC];refine aK ?_;rw [←hf,bv,List.reverse_reverse];rfl
open Go Go.Proofs Tryz Ord
theorem Cm (z:Int):-1≤z.sign∧z.sign≤1:=by rcases cG z with ⟨_,e⟩ | ⟨_,e⟩ | ⟨_,e⟩<;>omega
theorem Cj (z:Int):aM prog 183 [(zT z:aE)] (.ret [zT (-z)]):=by
 refine bZ func183 al5 ?_;have:=Cm z;apply vn (GG) rfl;dsimp only [aD,aC];refine aK ?_;show [aE.agg [.int .i64 (-z.sign),bT z.natAbs]] = [zT (-z)];rw [zT,zC,Int.sign_neg,Int.natAbs_neg]
theorem OF (z:Int):aM prog 148 [(zT z:aE)] (.ret [zT (z.natAbs:Int)]):=by
 refine bZ func148 Za ?_
 apply vn (tP (c:=((z.natAbs:Nat):Int).sign) (by
  rcases cG z with ⟨h,e⟩ | ⟨h,e⟩ | ⟨h,e⟩<;>rw [e]
  ·rw [Int.sign_eq_one_of_pos (by omega)];exact eE
  ·rw [h];exact eE
  ·rw [Int.sign_eq_one_of_pos (by omega)];exact eE)) rfl
 exact aK rfl
theorem bc6 {a b:Nat}:(bd (a+b)).length≤max (bd a).length (bd b).length+1:=by
 apply jU;have h1:=DL a;have h2:=DL b;have h3:32768^(bd a).length≤32768^(max (bd a).length (bd b).length):=Nat.pow_le_pow_right (by omega) (by omega);have h4:32768^(bd b).length≤32768^(max (bd a).length (bd b).length):=Nat.pow_le_pow_right (by omega) (by omega);rw [Nat.pow_succ];omega
theorem OT (x y:Int) (hx:(bd x.natAbs).length<137438953472) (hy:(bd y.natAbs).length<137438953472):aM prog 138 [(zT x:aE),(zT y:aE)] (.ret [zT (x+y)]):=by
 refine bZ func138 aq5 ?_;have hx0:=cG x;have hy0:=cG y
 have hl:∀ n,n≤x.natAbs+y.natAbs→(bd n).length<274877906944:=fun n hn=>by
  have h1:=eA hn;have h2:=bc6 (a:=x.natAbs) (b:=y.natAbs);omega
 apply vn bK rfl;refine vs _ rfl ?_ ?_<;>intro h1
 ·rw [show x=0 by omega,Int.zero_add];exact aK rfl
 apply vn bK rfl;refine vs _ rfl ?_ ?_<;>intro h4
 ·rw [show y=0 by omega,Int.add_zero];exact aK rfl
 apply vn bK rfl;dsimp only [aD,aC];refine vs _ rfl ?_ ?_<;>intro h7
 ·apply aA (lO x.natAbs y.natAbs (x.natAbs+y.natAbs) 1 (.inl rfl)) rfl
  apply aA (fV x.sign (x+y) _ (gX _) (by rw [fD];omega) (fun _=>by
   rcases hx0 with ⟨h,e⟩ | ⟨h,e⟩ | ⟨h,e⟩
   ·rw [e];exact Int.sign_eq_neg_one_of_neg (by omega)
   ·omega
   ·rw [e];exact Int.sign_eq_one_of_pos (by omega)) (by have:=hl _ (bC _);omega)) rfl
  exact aK rfl
 apply aA (sA x.natAbs y.natAbs) rfl;apply vn fJ rfl;dsimp only [aD,aC]
 have hci:(0≤fI (x.natAbs:Int) (y.natAbs:Int))↔y.natAbs≤x.natAbs:=by
  have:=uX (a:=(x.natAbs:Int)) (b:=(y.natAbs:Int));omega
 refine vs _ rfl ?_ ?_<;>intro h13
 ·apply aA (lO x.natAbs y.natAbs (x.natAbs-y.natAbs) (-1) (.inr rfl)) rfl
  apply aA (fV x.sign (x+y) _ (gX _) (by rw [fD];omega) (fun hne=>by
   rw [fD] at hne;rcases hx0 with ⟨h,e⟩ | ⟨h,e⟩ | ⟨h,e⟩
   ·rw [e];exact Int.sign_eq_neg_one_of_neg (by omega)
   ·omega
   ·rw [e];exact Int.sign_eq_one_of_pos (by omega)) (by have:=hl (x.natAbs-y.natAbs) (by omega);omega)) rfl
  exact aK rfl
 apply aA (lO y.natAbs x.natAbs (y.natAbs-x.natAbs) (-1) (.inr rfl)) rfl
 apply aA (fV y.sign (x+y) _ (gX _) (by rw [fD];omega) (fun hne=>by
  rw [fD] at hne;rcases hy0 with ⟨h,e⟩ | ⟨h,e⟩ | ⟨h,e⟩
  ·rw [e];exact Int.sign_eq_neg_one_of_neg (by omega)
  ·omega
  ·rw [e];exact Int.sign_eq_one_of_pos (by omega)) (by have:=hl (y.natAbs-x.natAbs) (by omega);omega)) rfl
 exact aK rfl
theorem Ix (x y:Int) (hx:(bd x.natAbs).length<137438953472) (hy:(bd y.natAbs).length<137438953472):aM prog 210 [(zT x:aE),(zT y:aE)] (.ret [zT (x-y)]):=by
 refine bZ func210 Zd ?_;apply aA (Cj y) rfl;apply aA (OT x (-y) hx (by rw [Int.natAbs_neg];exact hy)) rfl;rw [←Int.sub_eq_add_neg];exact aK rfl
theorem Uh (x y:Int):(x-y).sign=fI x y:=by
 unfold fI;rcases cG (x-y) with ⟨h,e⟩ | ⟨h,e⟩ | ⟨h,e⟩<;>rw [e]
 ·rw [if_pos (by omega)]
 ·rw [if_neg (by omega),if_neg (by omega)]
 ·rw [if_neg (by omega),if_pos (by omega)]
theorem ai2 (x y:Int) (hx:(bd x.natAbs).length<137438953472) (hy:(bd y.natAbs).length<137438953472):aM prog 134 [(zT x:aE),(zT y:aE)] (.ret [.one (.int .i64 (fI x y))]):=by
 refine bZ func134 ae1 ?_;apply aA (Ix x y hx hy) rfl;dsimp only [aD,aC];rw [←Uh];exact aK rfl
theorem Oy {n la i:Nat} (h:la=(bd n).length) (hi:i<la:=by omega):∃ d,(bd n)[la-1-i]? = some d∧(bd n).reverse[i]? = some d∧d<32768:=by
 subst h;have hd:(bd n).reverse[i]? = some ((bd n).reverse[i]'(by rw [List.length_reverse];exact hi)):=bI _;exact ⟨_,by rw [Cy hi];exact hd,hd,(gX n).rev.get hd⟩
set_option maxHeartbeats 2000000 in
theorem iO (x y:Int) (hs:(bd x.natAbs).length+(bd y.natAbs).length<274877906944:=by omega):aM prog 135 [(zT x:aE),(zT y:aE)] (.ret [zT (x*y)]):=by
 refine bZ func135 Yp ?_;obtain ⟨la,hla⟩:∃ n,(bd x.natAbs).length=n:=⟨_,rfl⟩
 obtain ⟨lb,hlb⟩:∃ n,(bd y.natAbs).length=n:=⟨_,rfl⟩
 have hra:(bd x.natAbs).reverse.length=la:=by rw [List.length_reverse,hla]
 have hrb:(bd y.natAbs).reverse.length=lb:=by rw [List.length_reverse,hlb]
 have hsx:=Cm x;have hsy:=Cm y;apply vn (aU fL (aP _)) rfl;apply vn (aU fL (aP _)) rfl;apply vn (aB) rfl;dsimp only [aD,aC];rw [hla,hlb];refine DQ (n:=la+lb) (f:=fun d:Nat=>[aG.int .i64 (d:Int)]) 0 rfl rfl (by omega) rfl (by omega) (by simp only [maxLen];omega) ?_;apply vn (aU fL (aP _)) rfl;apply vn (aH) rfl;dsimp only [aD,aC];rw [hla];refine bB {g:Nat×List Nat // Fg 32768 (bd x.natAbs).reverse (bd y.natAbs).reverse g.1 g.2} (fun g=>[.one (.int .i64 ((la:Int)-1-g.1.1)), .rows (rB g.1.2.reverse)]) (fun g=>la-g.1.1) ⟨(0,List.replicate (la+lb) 0),by have:=Fg.init (B:=32768) (by omega) (bd x.natAbs).reverse (bd y.natAbs).reverse;rw [hra,hrb] at this;exact this⟩ ⟨aE.Sub.of_eq (congrArg (fun q=>aE.one (aG.int .i64 q)) (by show (la:Int)-1=(la:Int)-1-((0:Nat):Int);omega)),aE.Sub.of_eq (by rw [List.reverse_replicate];rfl),trivial⟩ (fun _=>rfl) ?_;rintro ⟨⟨i,os⟩,hO⟩;dsimp only [aD,aC] at hO ⊢;have hil:=hO.le;rw [hra] at hil;apply vn fJ rfl;refine vs _ rfl ?_ ?_<;>intro h8
 ·apply vn (aU fL (aP _)) rfl;obtain ⟨d,hd1,hd2,hd3⟩:=Oy (n:=x.natAbs) (la:=la) (i:=i) hla.symm;dsimp only [aD,aC];apply vn (aH) rfl;dsimp only [aD,aC];rw [hlb];refine bB {g:Nat×Nat×List Nat // BIn 32768 (bd x.natAbs).reverse (bd y.natAbs).reverse i d (val 32768 ((bd x.natAbs).reverse.take i)*val 32768 (bd y.natAbs).reverse) g.1 g.2.1 g.2.2} (fun g=>[.one (.int .i64 g.1.2.1), .one (.int .i64 ((lb:Int)-1-g.1.1)), .rows (rB g.1.2.2.reverse)]) (fun g=>lb-g.1.1) ⟨(0,0,os),hO.inn (by omega)⟩ ⟨aE.Sub.same,aE.Sub.of_eq (congrArg (fun q=>aE.one (aG.int .i64 q)) (by show (lb:Int)-1=(lb:Int)-1-((0:Nat):Int);omega)),aE.Sub.same,trivial⟩ (fun _=>rfl) ?_;rintro ⟨⟨k,c,os2⟩,hI⟩;dsimp only [aD,aC] at hI ⊢;have hkl:=hI.le;have hol:=hI.len;have hc1:=hI.c1;rw [hrb] at hkl;rw [hra,hrb] at hol;apply vn fJ rfl;refine vs _ rfl ?_ ?_<;>intro h13
  ·apply vn (aB) rfl;apply vn (aB) rfl;dsimp only [aD,aC];obtain ⟨e,he1,he2,he3⟩:=Oy (n:=y.natAbs) (la:=lb) (i:=k) hlb.symm;obtain ⟨o,ho2⟩:∃ o,os2[i+k]? = some o:=⟨_,bI (by omega)⟩
   have ho1:os2.reverse[la+lb-1-(i+k)]? = some o:=by
    have:=Cy (ds:=os2.reverse) (i:=i+k) (by rw [List.length_reverse];omega);rw [List.reverse_reverse,List.length_reverse,hol] at this;rw [this];exact ho2
   have hoB:=hI.dg.get ho2;have hde:d*e≤32767*32767:=Nat.mul_le_mul (by omega) (by omega);have hst:∀ z,os2.reverse.set (la+lb-1-(i+k)) z=(os2.set (i+k) z).reverse:=fun z=>by rw [←hol];exact HM (by omega)
   obtain ⟨w,hw⟩:∃ w,c+(d*e+o)=w:=⟨_,rfl⟩
   have hN:=hI.next (z:=w%32768) (c':=w/32768) (by rw [hrb];omega) he2 ho2 (by omega) (by omega) (by omega);refine dI rfl rfl (by omega) (by rw [List.length_reverse];omega) ?_;refine sC rfl rfl (by omega) (by omega) ho1 rfl ?_;apply vn (aV fL hd1) rfl;apply vn (bG Pr) rfl;dsimp only [aD,aC];apply vn (aV fL he1) rfl;apply vn (bG Pr) rfl;apply vn (tP (c:=((d*e:Nat):Int)) (by rw [←Int.natCast_mul];exact eE)) rfl;dsimp only [aD,aC];apply vn (aB) rfl;dsimp only [aD,aC];apply vn (eH (c:=(w:Int)) (by rw [show (o:Int)+((d*e:Nat):Int)+(c:Int)=(w:Int) by omega];exact eE)) rfl;apply vn (aB) rfl;apply vn (aB) rfl;dsimp only [aD,aC];apply vn (eP) rfl;refine dI rfl rfl (by omega) (by rw [List.length_reverse];omega) ?_;refine oJ (d':=w%32768) rfl rfl (by omega) (by omega) ho1 rfl ?_;rw [hst];apply vn (gV) rfl;dsimp only [aD,aC];apply vn (aH) rfl;dsimp only [aD,aC];exact aR rfl ⟨⟨(k+1,w/32768,os2.set (i+k) (w%32768)),hN⟩,⟨aE.Sub.same,aE.Sub.of_eq (congrArg (fun q=>aE.one (aG.int .i64 q)) (by show (lb:Int)-1-(k:Int)-1=(lb:Int)-1-((k+1:Nat):Int);omega)),aE.Sub.same,trivial⟩,by show lb-(k+1)<lb-k;omega⟩
  have hke:k=lb:=by omega
  subst hke;obtain ⟨o,ho2⟩:∃ o,os2[i+k]? = some o:=⟨_,bI (by omega)⟩
  have ho1:os2.reverse[la+k-1-(i+k)]? = some o:=by
   have:=Cy (ds:=os2.reverse) (i:=i+k) (by rw [List.length_reverse];omega);rw [List.reverse_reverse,List.length_reverse,hol] at this;rw [this];exact ho2
  have hst:∀ z,os2.reverse.set (la+k-1-(i+k)) z=(os2.set (i+k) z).reverse:=fun z=>by rw [←hol];exact HM (by omega)
  have hN:Fg 32768 (bd x.natAbs).reverse (bd y.natAbs).reverse (i+1) (os2.set (i+k) c):=by
   have:=hI;rw [←hrb] at this ⊢;exact this.out hd2
  refine dI rfl rfl (by omega) (by rw [List.length_reverse];omega) ?_;refine oJ (d':=c) rfl rfl (by omega) (by omega) ho1 rfl ?_;rw [hst];apply vn (aH) rfl;dsimp only [aD,aC];exact aR rfl ⟨⟨(i+1,os2.set (i+k) c),hN⟩,⟨aE.Sub.of_eq (congrArg (fun q=>aE.one (aG.int .i64 q)) (by show (la:Int)-1-(i:Int)-1=(la:Int)-1-((i+1:Nat):Int);omega)),aE.Sub.same,trivial⟩,by show la-(i+1)<la-i;omega⟩
 have hie:i=la:=by omega
 subst hie
 have hf:val 32768 os=x.natAbs*y.natAbs:=by
  have:=hO;rw [←hra] at this;have:=this.fin;rw [val_rev,val_rev] at this;exact this
 have hol:=hO.len;rw [hra,hrb] at hol;have hmul:x.sign*y.sign=(x*y).sign:=(Int.sign_mul x y).symm;have hsb:=Cm (x*y);apply vn (tP (c:=(x*y).sign) (by rw [hmul];exact eE)) rfl;apply aA (fV (x*y).sign (x*y) os.reverse hO.dg.rev (by rw [bv,List.reverse_reverse,hf,Int.natAbs_mul]) (fun _=>rfl) (by rw [List.length_reverse];omega)) rfl;exact aK rfl
open Go Go.Proofs Tryz Ord
def at5:Tr:=.back 0 [lV 10 0,lV 11 0]
def bp8:Tr:=.split (.u 5 0) (aW .mul 3 14 32768 3 0 3 (aW .sub 3 17 1 1 0 3 (bO .sub 3 18 19 7 0 4 0 3 (aJ 263 [(W 0 0),(W 8 0)] [none] [16,20] [45,3] 3 true (bO .add 3 15 21 6 0 9 0 3 (aW .add 3 12 1 4 0 3 at5)))))) (.ret [(W 3 0)])
def bi7:Tr:=.loop 0 [lK 0,lK 0] (bO .lss 3 9 10 4 0 2 0 4 bp8)
theorem So:aL prog f284 (fun _=>none) [.v none, .v none, .v none]=bi7:=by kernel_rfl
def be0:Tr:=.loop 0 [lV 14 0,lV 10 0] (aJ 215 [(W 15 0),(W 1 0)] [none] [46,47] [45,45] 3 true (aW .geq 3 48 0 17 0 4 (.split (.u 18 0) (.need (.call 214 [(W 15 0),(W 1 0),(WK (-1))] [none]) (.call ⟨.value (.func 214),#[(tT 50),(tT 51),(.const (I3 (-1)))],#[45,45,3]⟩) 45 true (aW .add 3 53 1 16 0 3 (.back 0 [lV 19 0,lV 20 0]))) (.ret [(W 16 0),(W 15 0)]))))
def aE9:Tr:=.loop 0 [lV 0 0,lV 10 0] (aJ 215 [(W 12 0),(W 1 0)] [none] [46,47] [45,45] 3 true (aW .geq 3 48 0 14 0 4 (.split (.u 15 0) (.need (.call 214 [(W 12 0),(W 1 0),(WK (-1))] [none]) (.call ⟨.value (.func 214),#[(tT 50),(tT 51),(.const (I3 (-1)))],#[45,45,3]⟩) 45 true (aW .add 3 53 1 13 0 3 (.back 0 [lV 16 0,lV 17 0]))) (.ret [(W 13 0),(W 12 0)]))))
def WB:Tr:=aW .gtr 3 36 0 10 0 4 (.split (.u 11 0) (aJ 139 [(W 10 0)] [(some 2)] [39] [2] 47 false (aJ 135 [(G2 12),(.agg [(tE (.int .i64 1)),(U 1 0)])] [(some 2)] [40,42] [47,47] 47 true (.need (.call 214 [(W 0 0),(W 13 1),(WK (-1))] [none]) (.call ⟨.value (.func 214),#[(tT 38),(tT 44),(.const (I3 (-1)))],#[45,45,3]⟩) 45 true be0))) aE9)
def bu8:Tr:=aW .leq 3 14 3 2 0 4 (.split (.u 5 0) (aW .add 3 17 1 2 0 3 (aW .add 3 19 1 2 0 3 (aJ 284 [(W 0 0),(W 6 0),(W 7 0)] [none] [16,18,20] [45,3,3] 3 false (aJ 284 [(W 1 0),(W 2 0),(W 2 0)] [none] [22,23,24] [45,3,3] 3 true (bO .quo 3 21 25 8 0 9 0 3 WB))))) (aW .add 3 28 1 2 0 3 (.need (.call 284 [(W 0 0),(W 6 0),(WK 4)] [none]) (.call ⟨.value (.func 284),#[(tT 27),(tT 29),(.const (I3 4))],#[45,3,3]⟩) 3 false (.need (.call 284 [(W 1 0),(W 2 0),(WK 3)] [none]) (.call ⟨.value (.func 284),#[(tT 31),(tT 32),(.const (I3 3))],#[45,3,3]⟩) 3 false (aW .add 3 33 1 8 0 3 (bO .quo 3 30 34 7 0 9 0 3 WB))))))
def aD4:Tr:=.loop 0 [lV 8 0,lK 0] (aJ 215 [(W 9 0),(W 1 0)] [none] [46,47] [45,45] 3 true (aW .geq 3 48 0 11 0 4 (.split (.u 12 0) (.need (.call 214 [(W 9 0),(W 1 0),(WK (-1))] [none]) (.call ⟨.value (.func 214),#[(tT 50),(tT 51),(.const (I3 (-1)))],#[45,45,3]⟩) 45 true (aW .add 3 53 1 10 0 3 (.back 0 [lV 13 0,lV 14 0]))) (.ret [(W 10 0),(W 9 0)]))))
def aR6:Tr:=.split (.u 5 0) (aJ 139 [(WK 0)] [(some 2)] [39] [2] 47 false (aJ 135 [(G2 6),(.agg [(tE (.int .i64 1)),(U 1 0)])] [(some 2)] [40,42] [47,47] 47 true (.need (.call 214 [(W 0 0),(W 7 1),(WK (-1))] [none]) (.call ⟨.value (.func 214),#[(tT 38),(tT 44),(.const (I3 (-1)))],#[45,45,3]⟩) 45 true aD4))) (.loop 0 [lV 0 0,lK 0] (aJ 215 [(W 6 0),(W 1 0)] [none] [46,47] [45,45] 3 true (aW .geq 3 48 0 8 0 4 (.split (.u 9 0) (.need (.call 214 [(W 6 0),(W 1 0),(WK (-1))] [none]) (.call ⟨.value (.func 214),#[(tT 50),(tT 51),(.const (I3 (-1)))],#[45,45,3]⟩) 45 true (aW .add 3 53 1 7 0 3 at5)) (.ret [(W 7 0),(W 6 0)])))))
def bg7:Tr:=cU 1 0 8 45 (cU 0 0 10 45 (bO .geq 3 11 12 3 0 2 0 4 (.split (.u 4 0) bu8 (.need (.prim [(WK 0),(WK 0)] none) (.binOp .gtr 3 (tT 36) (.const (I3 0)) 3) 4 false aR6))))
theorem Vd:aL prog f261 (fun _=>none) [.v none, .v none]=bg7:=by kernel_rfl
def aU1:Tr:=.need (.app 1 8 (some 17) none (some 20)) (.call ⟨.builtin .append,#[(tT 33),(tT 38)],#[45,45]⟩) 45 false (aJ 260 [(.one (.c (.sr 1 21)))] [none] [39] [45] 45 true (aJ 261 [(W 22 0),(W 1 0)] [none,none] [42,43] [45,45] 311 false (.need (.lit 1 [[(.u 23 0)]]) (.buildSlice 45 1 #[(0,(tT 48))]) 45 false (.need (.app 1 8 (some 14) none (some 25)) (.call ⟨.builtin .append,#[(tT 47),(tT 49)],#[45,45]⟩) 45 false (aW .add 3 30 1 13 0 3 (.back 0 [lV 24 0,lV 27 0, .row 26]))))))
def aA1:Tr:=cU 0 0 27 45 (bO .lss 3 26 28 13 0 15 0 4 (.split (.u 16 0) (.need (.app 1 8 none (some (.u 12 0)) none) (.call ⟨.builtin .append,#[(.const (.slice none 0 0)),(tT 32)],#[45,45]⟩) 45 false (eN 0 0 13 0 45 34 35 (dR 18 0 none 3 36 (.need (.lit 1 [[(.u 19 0)]]) (.buildSlice 45 1 #[(0,(tT 37))]) 45 false aU1)))) (aJ 260 [(.one (.c (.sr 1 14)))] [none] [51] [45] 45 false (.ret [(W 17 0),(W 12 0)]))))
def bl4:Tr:=aW .sub 3 18 1 5 0 3 (.need (.prim [(W 0 0),(W 6 0)] none) (.slice 45 (tT 16) none (some (tT 19)) none) 45 false (.need (.app 1 8 none (some (.u 7 0)) none) (.call ⟨.builtin .append,#[(.const (.slice none 0 0)),(tT 20)],#[45,45]⟩) 45 false (aJ 260 [(.one (.c (.sr 1 8)))] [none] [21] [45] 45 true (cU 1 0 23 45 (aW .sub 3 24 1 10 0 3 (.loop 0 [lV 9 0,lV 11 0, .nilrow] aA1))))))
def bo6:Tr:=cU 0 0 10 45 (cU 1 0 12 45 (bO .lss 3 11 13 2 0 3 0 4 (.split (.u 4 0) (.ret [(.one (.c (.k (.slice none 0 0)))),(W 0 0)]) (cU 1 0 17 45 bl4))))
theorem XK:aL prog f213 (fun _=>none) [.v none, .v none]=bo6:=by kernel_rfl
def Sl:Tr:=.ret [(G2 4),(G2 5)]
def bs4:Tr:=.split (.u 6 0) (aW .neq 3 29 0 5 0 4 (.split (.u 7 0) (.need (.call 139 [(WK 1)] [(some 2)]) (.call ⟨.value (.func 139),#[(.const (I3 1))],#[2]⟩) 47 false (aJ 210 [(G2 4),(G2 8)] [(some 2)] [32,33] [47,47] 47 false (aJ 210 [(G2 1),(G2 5)] [(some 2)] [35,36] [47,47] 47 true (.ret [(G2 9),(G2 10)])))) Sl)) Sl
def bl9:Tr:=aJ 213 [(W 0 1),(W 1 1)] [none,none] [12,14] [45,45] 269 false (aJ 211 [(W 0 0),(W 2 0)] [(some 2)] [19,20] [3,45] 47 false (.need (.call 211 [(WK 1),(W 3 0)] [(some 2)]) (.call ⟨.value (.func 211),#[(.const (I3 1)),(tT 22)],#[3,45]⟩) 47 true (aW .lss 3 25 0 0 0 4 bs4)))
theorem Rq:aL prog f272 (fun _=>none) [.v (some 2), .v (some 2)]=bl9:=by kernel_rfl
def bu6:Tr:=.split (.u 4 0) (aW .mul 3 11 32768 1 0 3 (eN 0 0 2 0 45 13 14 (dR 6 0 none 3 15 (bO .add 3 12 16 5 0 7 0 3 (aW .add 3 9 1 2 0 3 (.back 0 [lV 8 0,lV 9 0])))))) LB
def bz9:Tr:=.loop 0 [lK 0,lK 0] (cU 0 0 6 45 (bO .lss 3 5 7 2 0 3 0 4 bu6))
theorem SA:aL prog f257 (fun _=>none) [.v none]=bz9:=by kernel_rfl
def aJ5:Tr:=aJ 257 [(W 2 0)] [none] [26] [45] 3 false (aJ 257 [(W 3 0)] [none] [28] [45] 3 true (.loop 1 [lV 12 0,lV 13 0] (aW .neq 3 30 0 15 0 4 (.split (.u 16 0) (bO .rem 3 33 34 14 0 15 0 3 (.back 1 [lV 15 0,lV 17 0])) (aJ 139 [(W 14 0)] [(some 2)] [36] [2] 47 true (.ret [(G2 17)]))))))
def by9:Tr:=aW .leq 3 19 4 8 0 4 (.split (.u 9 0) (cU 3 0 22 45 (aW .leq 3 23 4 10 0 4 (.split (.u 11 0) aJ5 (aJ 213 [(W 2 0),(W 3 0)] [none,none] [39,40] [45,45] 269 false (.back 0 [lV 3 0,lV 13 0,lV 4 0,lV 5 0]))))) (aJ 213 [(W 2 0),(W 3 0)] [none,none] [39,40] [45,45] 269 false (.back 0 [lV 3 0,lV 11 0,lV 4 0,lV 5 0])))
def bl3:Tr:=.loop 0 [lV 0 1,lV 1 1,lK 0,lN] (cU 3 0 15 45 (aW .gtr 3 16 0 6 0 4 (.split (.u 7 0) (cU 2 0 18 45 by9) (.need (.call 211 [(WK 1),(W 2 0)] [(some 2)]) (.call ⟨.value (.func 211),#[(.const (I3 1)),(tT 46)],#[3,45]⟩) 47 true Nt))))
theorem Yu:aL prog f212 (fun _=>none) [.v (some 2), .v (some 2)]=bl3:=by kernel_rfl
theorem Nh {m long i:Nat} (h:i<long:=by omega):m/32768^(long-i)*32768+m/32768^(long-1-i)%32768=m/32768^(long-(i+1)):=by
 have e:m/32768^(long-i)=m/32768^(long-(i+1))/32768:=by
  rw [Nat.div_div_eq_div_mul,←Nat.pow_succ];congr 2;omega
 rw [e,show long-1-i=long-(i+1) by omega];have:=Nat.div_add_mod (m/32768^(long-(i+1))) 32768;omega
theorem yN {m long i:Nat} (h:i≤long) (hm:m<32768^long):m/32768^(long-i)<32768^i:=by
 rw [Nat.div_lt_iff_lt_mul (Nat.pow_pos (by omega)),←Nat.pow_add,show i+(long-i)=long by omega];exact hm
theorem Mi {i:Nat} (h:i≤4:=by omega):32768^i≤1152921504606846976:=by
 have:=Nat.pow_le_pow_right (n:=32768) (by omega) h;rw [show (32768:Nat)^4=1152921504606846976 by decide] at this;exact this
theorem zA (m long k:Nat) (hm:m<32768^long) (hk:k≤long:=by omega) (hk4:k≤4:=by omega) (hl:long<1099511627776:=by omega) (hs:(bd m).length<1099511627776:=by omega):aM prog 284 [(.one (bT m):aE),(.one (.int .i64 long):aE),(.one (.int .i64 k):aE)] (.ret [.one (.int .i64 ((m/32768^(long-k):Nat):Int))]):=by
 refine bZ func284 So ?_;refine bB {i:Nat // i≤k} (fun g=>[.one (.int .i64 ((m/32768^(long-g.1):Nat):Int)), .one (.int .i64 g.1)]) (fun g=>k-g.1) ⟨0,bV _⟩ ⟨aE.Sub.of_eq (congrArg (fun q:Nat=>aE.one (aG.int .i64 (q:Int))) (by show 0=m/32768^long;rw [Nat.div_eq_of_lt hm])),aE.Sub.same,trivial⟩ (fun _=>rfl) ?_;rintro ⟨i,hi⟩;dsimp only [aD,aC] at hi ⊢;apply vn aZ rfl;refine vs _ rfl ?_ ?_<;>intro h2
 ·have hx:=yN (m:=m) (i:=i) (long:=long) (by omega) hm;have hp:=Mi (i:=i);have hstep:=Nh (m:=m) (long:=long) (i:=i);have hlt:=yN (m:=m) (i:=i+1) (long:=long) (by omega) hm;have hp2:=Mi (i:=i+1);generalize m/32768^(long-i)=x at *;generalize hy:m/32768^(long-(i+1))=y at *;apply vn (nE) rfl;apply vn (aH) rfl;dsimp only [aD,aC];apply vn (nM (c:=((long-1-i:Nat):Int)) (by rw [show ((long:Int)-1-(i:Int))=((long-1-i:Nat):Int) by omega];exact eE)) rfl;apply aA (DJ m (long-1-i) hs) rfl;generalize m/32768^(long-1-i)%32768=d at *;dsimp only [aD,aC];apply vn (eH (c:=(y:Int)) (by rw [show (x:Int)*32768+(d:Int)=(y:Int) by omega];exact eE)) rfl;apply vn (aB) rfl;dsimp only [aD,aC];exact aR rfl ⟨⟨i+1,by omega⟩,⟨aE.Sub.of_eq (congrArg (fun q:Nat=>aE.one (aG.int .i64 (q:Int))) hy.symm),aE.Sub.same,trivial⟩,by show k-(i+1)<k-i;omega⟩
 rw [show k=i by omega];exact aK rfl
theorem MY {d:Nat} (h:0<d):zT (d:Int) = .agg [.int .i64 1,bT d]:=by
 rw [zT,zC,Int.sign_eq_one_of_pos (by omega)];rfl
theorem Uf {r d m:Nat}:r/32768^m/(d/32768^m+1)*d≤r:=by
 have hp:0<32768^m:=Nat.pow_pos (by omega)
 have h1:d≤(d/32768^m+1)*32768^m:=by
  rw [Nat.mul_comm];exact Nat.le_of_lt (Nat.lt_mul_div_succ d hp)
 calc r/32768^m/(d/32768^m+1)*d≤r/32768^m/(d/32768^m+1)*((d/32768^m+1)*32768^m):=Nat.mul_le_mul_left _ h1
  _=r/32768^m/(d/32768^m+1)*(d/32768^m+1)*32768^m:=(Nat.mul_assoc _ _ _).symm
  _≤r/32768^m*32768^m:=Nat.mul_le_mul_right _ (Nat.div_mul_le_self _ _)
  _≤r:=Nat.div_mul_le_self _ _
set_option maxHeartbeats 2000000 in
theorem Xv (r d:Nat) (hd:0<d) (hr:r<d*32768) (hs:(bd d).length<34359738368:=by omega):aM prog 261 [(.one (bT r):aE),(.one (bT d):aE)] (.ret [.one (.int .i64 ((r/d:Nat):Int)), .one (bT (r%d))]):=by
 refine bZ func261 Vd ?_;have hdl:=DL d
 have hrl:r<32768^((bd d).length+1):=by
  rw [Nat.pow_succ];exact Nat.lt_trans hr (Nat.mul_lt_mul_of_pos_right hdl (by omega))
 have hrs:=jU hrl;have hle:∀ q,q≤r→(bd q).length≤(bd d).length+1:=fun q hq=>Nat.le_trans (eA hq) hrs
 have hdn:0<(bd d).length:=by
  rcases Nat.eq_zero_or_pos (bd d).length with h | h
  ·have:=EA.1 (List.eq_nil_of_length_eq_zero h);omega
  ·exact h
 have hqB:r/d<32768:=by rw [Nat.div_lt_iff_lt_mul hd,Nat.mul_comm];exact hr
 have hkd:∀ k,k*d≤r→k<32768:=fun k hk=>by
  have:k≤r/d:=by rw [Nat.le_div_iff_mul_le hd];exact hk
  omega
 have hfin:∀ r' k,r'+k*d=r→r'<d→k=r/d∧r'=r%d:=fun r' k h1 h2=>Aq (by rw [←h1,Nat.mul_comm]) h2
 have hah:∀ r':Nat,(0≤fI (r':Int) (d:Int))↔d≤r':=fun r'=>by
  have:=uX (a:=(r':Int)) (b:=(d:Int));omega
 apply vn (aU fL (aP _)) rfl;apply vn (aU fL (aP _)) rfl;apply vn fJ rfl;dsimp only [aD,aC];refine vs _ rfl ?_ ?_<;>intro h3
 ·apply vn eW rfl;refine vs _ rfl ?_ ?_<;>intro h5
  ·apply vn (aB) rfl;apply vn (aB) rfl;dsimp only [aD,aC];apply aA (zA r ((bd d).length+1) ((bd d).length+1) hrl (bC _)) rfl;rw [Nat.sub_self,Nat.pow_zero,Nat.div_one];apply aA (zA d (bd d).length (bd d).length hdl (bC _)) rfl;rw [Nat.sub_self,Nat.pow_zero,Nat.div_one];dsimp only [aD,aC];obtain ⟨k,hk⟩:∃ k,r/d=k:=⟨_,rfl⟩
   have hk1:k*d≤r:=by rw [←hk];exact Nat.div_mul_le_self _ _
   have hk2:=hkd k hk1;apply vn (rN (c:=(k:Int)) (by omega) (by rw [Int.tdiv_eq_ediv_of_nonneg (pX _),←Int.natCast_ediv,hk];exact eE)) rfl;apply vn dH rfl;refine vs _ rfl ?_ ?_<;>intro h12
   ·have hm:=iO (k:Int) (d:Int) (by
     rw [Int.natAbs_natCast,Int.natAbs_natCast];have:(bd k).length≤1:=jU (by omega);omega)
    rw [MY hd,show (k:Int)*(d:Int)=((k*d:Nat):Int) by rw [Int.natCast_mul]] at hm;apply aA (iL k) rfl;dsimp only [aD,aC];apply aA hm rfl;apply aA (lO r (k*d) (r-k*d) (-1) (.inr rfl) (by have:=hle _ hk1;omega)) rfl;dsimp only [aD,aC];refine bB {g:Nat×Nat // g.1+g.2*d=r} (fun g=>[.one (bT g.1.1), .one (.int .i64 g.1.2)]) (fun g=>g.1.1) ⟨(r-k*d,k),by show r-k*d+k*d=r;omega⟩ aN.rfl (fun _=>rfl) ?_;rintro ⟨⟨r',k'⟩,hg⟩;dsimp only [aD,aC] at hg ⊢;have hk3:=hkd k' (by omega);have hr3:=hle r' (by omega);apply aA (sA r' d) rfl;apply vn fJ rfl;refine vs _ rfl ?_ ?_<;>intro h19
    ·have hdr:d≤r':=(hah r').1 (by assumption);apply aA (lO r' d (r'-d) (-1) (.inr rfl)) rfl;dsimp only [aD,aC];apply vn (aB) rfl;dsimp only [aD,aC];exact aR rfl ⟨⟨(r'-d,k'+1),by show r'-d+(k'+1)*d=r;rw [Nat.add_mul];omega⟩,aN.rfl,by show r'-d<r';omega⟩
    have hdr:r'<d:=by
     rcases Nat.lt_or_ge r' d with h | h
     ·exact h
     ·exact absurd ((hah r').2 h) (by assumption)
    obtain ⟨e1,e2⟩:=hfin r' k' hg hdr;rw [←e1,←e2];exact aK rfl
   refine bB {g:Nat×Nat // g.1+g.2*d=r} (fun g=>[.one (bT g.1.1), .one (.int .i64 g.1.2)]) (fun g=>g.1.1) ⟨(r,0),by omega⟩ ⟨aE.Sub.same,aE.Sub.of_eq (congrArg (fun q:Nat=>aE.one (aG.int .i64 (q:Int))) (by show k=0;omega)),trivial⟩ (fun _=>rfl) ?_;rintro ⟨⟨r',k'⟩,hg⟩;dsimp only [aD,aC] at hg ⊢;have hk3:=hkd k' (by omega);have hr3:=hle r' (by omega);apply aA (sA r' d) rfl;apply vn fJ rfl;refine vs _ rfl ?_ ?_<;>intro h27
   ·have hdr:d≤r':=(hah r').1 (by assumption);apply aA (lO r' d (r'-d) (-1) (.inr rfl)) rfl;dsimp only [aD,aC];apply vn (aB) rfl;dsimp only [aD,aC];exact aR rfl ⟨⟨(r'-d,k'+1),by show r'-d+(k'+1)*d=r;rw [Nat.add_mul];omega⟩,aN.rfl,by show r'-d<r';omega⟩
   have hdr:r'<d:=by
    rcases Nat.lt_or_ge r' d with h | h
    ·exact h
    ·exact absurd ((hah r').2 h) (by assumption)
   obtain ⟨e1,e2⟩:=hfin r' k' hg hdr;rw [←e1,←e2];exact aK rfl
  apply vn (aB) rfl;apply aA (zA r ((bd d).length+1) 4 hrl) rfl;apply aA (zA d (bd d).length 3 hdl) rfl;rw [show (bd d).length+1-4=(bd d).length-3 by omega];have hd3:=yN (m:=d) (long:=(bd d).length) (i:=3) (by omega) hdl;have hr4:=yN (m:=r) (long:=(bd d).length+1) (i:=4) (by omega) hrl;rw [show (bd d).length+1-4=(bd d).length-3 by omega] at hr4;have hp3:=Mi (i:=3);have hp4:=Mi (i:=4);have hk1:=Uf (r:=r) (d:=d) (m:=(bd d).length-3);generalize r/32768^((bd d).length-3)=rt at *;generalize d/32768^((bd d).length-3)=dt at *;obtain ⟨k,hk⟩:∃ k,rt/(dt+1)=k:=⟨_,rfl⟩
  rw [hk] at hk1;have hk2:=hkd k hk1;dsimp only [aD,aC];apply vn (aB) rfl;dsimp only [aD,aC];apply vn (rN (c:=(k:Int)) (by omega) (by rw [Int.tdiv_eq_ediv_of_nonneg (pX _),show ((dt:Int)+1)=((dt+1:Nat):Int) by omega,←Int.natCast_ediv,hk];exact eE)) rfl;apply vn dH rfl;refine vs _ rfl ?_ ?_<;>intro h38
  ·have hm:=iO (k:Int) (d:Int) (by
    rw [Int.natAbs_natCast,Int.natAbs_natCast];have:(bd k).length≤1:=jU (by omega);omega)
   rw [MY hd,show (k:Int)*(d:Int)=((k*d:Nat):Int) by rw [Int.natCast_mul]] at hm;apply aA (iL k) rfl;dsimp only [aD,aC];apply aA hm rfl;apply aA (lO r (k*d) (r-k*d) (-1) (.inr rfl) (by have:=hle _ hk1;omega)) rfl;dsimp only [aD,aC];refine bB {g:Nat×Nat // g.1+g.2*d=r} (fun g=>[.one (bT g.1.1), .one (.int .i64 g.1.2)]) (fun g=>g.1.1) ⟨(r-k*d,k),by show r-k*d+k*d=r;omega⟩ aN.rfl (fun _=>rfl) ?_;rintro ⟨⟨r',k'⟩,hg⟩;dsimp only [aD,aC] at hg ⊢;have hk3:=hkd k' (by omega);have hr3:=hle r' (by omega);apply aA (sA r' d) rfl;apply vn fJ rfl;refine vs _ rfl ?_ ?_<;>intro h45
   ·have hdr:d≤r':=(hah r').1 (by assumption);apply aA (lO r' d (r'-d) (-1) (.inr rfl)) rfl;dsimp only [aD,aC];apply vn (aB) rfl;dsimp only [aD,aC];exact aR rfl ⟨⟨(r'-d,k'+1),by show r'-d+(k'+1)*d=r;rw [Nat.add_mul];omega⟩,aN.rfl,by show r'-d<r';omega⟩
   have hdr:r'<d:=by
    rcases Nat.lt_or_ge r' d with h | h
    ·exact h
    ·exact absurd ((hah r').2 h) (by assumption)
   obtain ⟨e1,e2⟩:=hfin r' k' hg hdr;rw [←e1,←e2];exact aK rfl
  refine bB {g:Nat×Nat // g.1+g.2*d=r} (fun g=>[.one (bT g.1.1), .one (.int .i64 g.1.2)]) (fun g=>g.1.1) ⟨(r,0),by omega⟩ ⟨aE.Sub.same,aE.Sub.of_eq (congrArg (fun q:Nat=>aE.one (aG.int .i64 (q:Int))) (by show k=0;omega)),trivial⟩ (fun _=>rfl) ?_;rintro ⟨⟨r',k'⟩,hg⟩;dsimp only [aD,aC] at hg ⊢;have hk3:=hkd k' (by omega);have hr3:=hle r' (by omega);apply aA (sA r' d) rfl;apply vn fJ rfl;refine vs _ rfl ?_ ?_<;>intro h53
  ·have hdr:d≤r':=(hah r').1 (by assumption);apply aA (lO r' d (r'-d) (-1) (.inr rfl)) rfl;dsimp only [aD,aC];apply vn (aB) rfl;dsimp only [aD,aC];exact aR rfl ⟨⟨(r'-d,k'+1),by show r'-d+(k'+1)*d=r;rw [Nat.add_mul];omega⟩,aN.rfl,by show r'-d<r';omega⟩
  have hdr:r'<d:=by
   rcases Nat.lt_or_ge r' d with h | h
   ·exact h
   ·exact absurd ((hah r').2 h) (by assumption)
  obtain ⟨e1,e2⟩:=hfin r' k' hg hdr;rw [←e1,←e2];exact aK rfl
 apply vn dH rfl;refine vs _ rfl ?_ ?_<;>intro h59
 ·exfalso;omega
 refine bB {g:Nat×Nat // g.1+g.2*d=r} (fun g=>[.one (bT g.1.1), .one (.int .i64 g.1.2)]) (fun g=>g.1.1) ⟨(r,0),by omega⟩ aN.rfl (fun _=>rfl) ?_;rintro ⟨⟨r',k'⟩,hg⟩;dsimp only [aD,aC] at hg ⊢;have hk3:=hkd k' (by omega);have hr3:=hle r' (by omega);apply aA (sA r' d) rfl;apply vn fJ rfl;refine vs _ rfl ?_ ?_<;>intro h74
 ·have hdr:d≤r':=(hah r').1 (by assumption);apply aA (lO r' d (r'-d) (-1) (.inr rfl)) rfl;dsimp only [aD,aC];apply vn (aB) rfl;dsimp only [aD,aC];exact aR rfl ⟨⟨(r'-d,k'+1),by show r'-d+(k'+1)*d=r;rw [Nat.add_mul];omega⟩,aN.rfl,by show r'-d<r';omega⟩
 have hdr:r'<d:=by
  rcases Nat.lt_or_ge r' d with h | h
  ·exact h
  ·exact absurd ((hah r').2 h) (by assumption)
 obtain ⟨e1,e2⟩:=hfin r' k' hg hdr;rw [←e1,←e2];exact aK rfl
set_option maxHeartbeats 1000000 in
theorem jG (a d:Nat) (hd:0<d:=by omega) (hs:(bd a).length+(bd d).length<34359738368:=by omega):aM prog 213 [(.one (bT a):aE),(.one (bT d):aE)] (.ret [.one (bT (a/d)), .one (bT (a%d))]):=by
 refine bZ func213 XK ?_
 have hdn:0<(bd d).length:=by
  rcases Nat.eq_zero_or_pos (bd d).length with h | h
  ·have:=EA.1 (List.eq_nil_of_length_eq_zero h);omega
  ·exact h
 apply vn (aU fL (aP _)) rfl;apply vn (aU fL (aP _)) rfl;apply vn aZ rfl;dsimp only [aD,aC];refine vs _ rfl ?_ ?_<;>intro h3
 ·have had:=xQ (a:=a) (b:=d);refine dA ⟨rJ (Nat.div_eq_of_lt had),?_,trivial⟩;rw [Nat.mod_eq_of_lt had];exact aG.Sub.same
 apply vn (aU fL (aP _)) rfl;apply vn (aH) rfl;apply vn (XV (m:=(bd d).length-1)) rfl;dsimp only [aD,aC];refine qQ (ts:=[]) (us:=rB ((bd a).take ((bd d).length-1))) (vs:=rB ((bd a).take ((bd d).length-1))) rfl (.inr aG.Sub.same) rfl (by simp;omega) (by simp [maxLen];omega) ?_;apply aA (vC ((bd a).take ((bd d).length-1)) ((gX a).take _) (by rw [List.length_take];omega)) rfl;apply vn (aU fL (aP _)) rfl;dsimp only [aD,aC];apply vn (aH) rfl;dsimp only [aD,aC]
 refine bB {g:Nat×Nat×List Nat // (bd d).length-1≤g.1∧g.1≤(bd a).length∧bv ((bd a).take g.1)=g.2.1+d*bv g.2.2∧g.2.1<d∧DB 32768 g.2.2∧g.2.2.length≤g.1} (fun g=>[.one (bT g.1.2.1), .one (.int .i64 g.1.1), .rows (rB g.1.2.2)]) (fun g=>(bd a).length-g.1.1) ⟨((bd d).length-1,bv ((bd a).take ((bd d).length-1)),[]),bC _,by show (bd d).length-1≤_;omega,by simp [bv,val],by
  have h1:=KG ((gX a).take ((bd d).length-1));rw [List.length_take,Nat.min_eq_left (by omega)] at h1;exact Nat.lt_of_lt_of_le h1 (by6 (by omega)),Sc,bV _⟩ ⟨aE.Sub.same,aE.Sub.of_eq (congrArg (fun q=>aE.one (aG.int .i64 q)) (by show ((bd d).length:Int)-1=(((bd d).length-1:Nat):Int);omega)),aE.Sub.same,trivial⟩ (fun _=>rfl) ?_
 rintro ⟨⟨i,R,qs⟩,hi1,hi2,hv,hR,hq,hql⟩;dsimp only [aD,aC] at hi1 hi2 hv hR hq hql ⊢;have hRl:=eA (Nat.le_of_lt hR);apply vn (aU fL (aP _)) rfl;apply vn aZ rfl;refine vs _ rfl ?_ ?_<;>intro h15
 ·obtain ⟨x,hx⟩:∃ x,(bd a)[i]? = some x:=⟨_,bI (by omega)⟩
  have hxB:=(gX a).get hx;refine qQ (ts:=[]) (us:=rB (bd R)) (vs:=rB (bd R)) rfl (.inr aG.Sub.same) rfl (by simp;omega) (by simp [maxLen];omega) ?_;dsimp only [aD,aC];apply vn (aV fL hx) rfl;apply vn (bG Pr) rfl;apply bP (us:=rB [x]) rfl;dsimp only [aD,aC];refine qQ (ts:=rB (bd R)) (us:=rB [x]) (vs:=rB (bd R ++ [x])) rfl rfl (by rw [rB,rB,rB,←List.map_append]) (by simp;omega) (by simp [maxLen];omega) ?_;dsimp only [aD,aC];have hdb:DB 32768 (bd R ++ [x]):=(gX R).append (fun y hy=>by simp at hy;omega);apply aA (vC (bd R ++ [x]) hdb (by simp;omega)) rfl;rw [Cp,fD]
  apply aA (Xv (R*32768+x) d hd (by
   have:(R+1)*32768≤d*32768:=Nat.mul_le_mul_right _ hR;omega)) rfl
  have hmd:=Nat.mod_add_div (R*32768+x) d
  have hqB:(R*32768+x)/d<32768:=by
   rw [Nat.div_lt_iff_lt_mul hd,Nat.mul_comm];have:(R+1)*32768≤d*32768:=Nat.mul_le_mul_right _ hR;omega
  have hRm:=Nat.mod_lt (R*32768+x) hd;generalize (R*32768+x)/d=k at *;generalize (R*32768+x)%d=R' at *;apply bP (us:=rB [k]) rfl;dsimp only [aD,aC];refine qQ (ts:=rB qs) (us:=rB [k]) (vs:=rB (qs ++ [k])) rfl rfl (by rw [rB,rB,rB,←List.map_append]) (by simp;omega) (by simp [maxLen];omega) ?_;apply vn (aB) rfl;dsimp only [aD,aC]
  exact aR rfl ⟨⟨(i+1,R',qs ++ [k]),by show _≤i+1;omega,by show i+1≤_;omega,by
   show bv ((bd a).take (i+1))=R'+d*bv (qs ++ [k]);rw [take_succ hx,Cp,Cp,hv,Nat.mul_add,Nat.add_mul,←Nat.mul_assoc];omega,hRm,hq.append (fun y hy=>by simp at hy;omega),by show (qs ++ [k]).length≤i+1;simp;omega⟩,aN.rfl,by show (bd a).length-(i+1)<(bd a).length-i;omega⟩
 have hie:i=(bd a).length:=by omega
 subst hie;rw [List.take_length,fD] at hv;obtain ⟨e1,e2⟩:=Aq hv hR;apply aA (vC qs hq) rfl;dsimp only [aD,aC];rw [←e1,←e2];exact aK rfl
theorem YE (x:Int) (d:Nat) (hd:0<d):x%(d:Int)=if x<0 then (if x.natAbs%d=0 then 0 else ((d-x.natAbs%d:Nat):Int)) else ((x.natAbs%d:Nat):Int):=by
 have h1:=Int.mul_ediv_add_emod x d;have h2:=uD x d hd;have h3:=Nat.div_add_mod x.natAbs d;have h4:=Nat.mod_lt x.natAbs hd;have e:((x.natAbs:Nat):Int)=(d:Int)*((x.natAbs/d:Nat):Int)+((x.natAbs%d:Nat):Int):=by rw [←Int.natCast_mul];omega
 rw [h2] at h1;generalize x.natAbs/d=q at *;generalize x.natAbs%d=r at *;by_cases h:x<0
 ·rw [if_pos h] at h1 ⊢;by_cases hr:r=0
  ·rw [if_pos hr] at h1 ⊢;rw [Int.mul_neg] at h1;omega
  ·rw [if_neg hr] at h1 ⊢;rw [Int.mul_neg,Int.natCast_add,Int.mul_add] at h1;omega
 ·rw [if_neg h] at h1 ⊢;omega
theorem QC (x:Int) (d:Nat) (hd:0<d) (hs:(bd x.natAbs).length+(bd d).length<34359738368:=by omega):aM prog 272 [(zT x:aE),(zT (d:Int):aE)] (.ret [zT (x/(d:Int)),zT (x%(d:Int))]):=by
 refine bZ func272 Rq ?_;have hf:=uD x d hd;have he:=YE x d hd;have hql:=eA (Nat.div_le_self x.natAbs d);have hrl:=eA (Nat.le_of_lt (Nat.mod_lt x.natAbs hd));have hrd:=Nat.mod_lt x.natAbs hd;have hsx:=cG x;obtain ⟨q,hq⟩:∃ q,x.natAbs/d=q:=⟨_,rfl⟩
 obtain ⟨r,hr⟩:∃ r,x.natAbs%d=r:=⟨_,rfl⟩
 have hov:=jG x.natAbs d hd hs;rw [hq,hr] at hov;rw [hq] at hql;rw [hr] at hrl hrd;rw [hq,hr] at hf;rw [hr] at he;apply aA hov rfl;dsimp only [aD,aC];obtain ⟨z,hz⟩:∃ z:Int,(if x<0 then -(q:Int) else q)=z:=⟨_,rfl⟩
 have hza:z.natAbs=q:=by rw [←hz];split<;>omega
 apply aA (fV x.sign z (bd q) (gX _) (by rw [fD];exact hza) (fun hne=>by
  rw [fD] at hne;rcases hsx with ⟨h,e⟩ | ⟨h,e⟩ | ⟨h,e⟩
  ·rw [e];rw [if_pos h] at hz;exact Int.sign_eq_neg_one_of_neg (by omega)
  ·subst h;simp at hq;omega
  ·rw [e];rw [if_neg (by omega)] at hz;exact Int.sign_eq_one_of_pos (by omega))) rfl
 apply aA (fV 1 (r:Int) (bd r) (gX _) (by rw [fD];rfl) (fun hne=>by rw [fD] at hne;exact Int.sign_eq_one_of_pos (by omega))) rfl;apply vn aZ rfl;dsimp only [aD,aC];refine vs _ rfl ?_ ?_<;>intro h4
 ·have hx0:x<0:=by rcases hsx with ⟨h,e⟩ | ⟨h,e⟩ | ⟨h,e⟩<;>omega
  rw [if_pos hx0] at hz hf he;have hsr:=cG (r:Int);apply vn gD rfl;refine vs _ rfl ?_ ?_<;>intro h6
  ·apply aA (iL 1) rfl;dsimp only [aD,aC];apply aA (Ix z 1 (by rw [hza];omega) (by show (bd 1).length<_;rw [Dw];simp)) rfl;apply aA (Ix (d:Int) (r:Int) (by rw [Int.natAbs_natCast];omega) (by rw [Int.natAbs_natCast];omega)) rfl;dsimp only [aD,aC];have hr0:r≠0:=by rcases hsr with ⟨h,e⟩ | ⟨h,e⟩ | ⟨h,e⟩<;>omega
   rw [if_neg hr0] at hf he;rw [show x/(d:Int)=z-1 by omega,show x%(d:Int)=(d:Int)-r by omega];exact aK rfl
  have hr0:r=0:=by rcases hsr with ⟨h,e⟩ | ⟨h,e⟩ | ⟨h,e⟩<;>omega
  rw [if_pos hr0] at hf he;rw [show x/(d:Int)=z by omega,show x%(d:Int)=(r:Int) by omega];exact aK rfl
 have hx0:¬ x<0:=by rcases hsx with ⟨h,e⟩ | ⟨h,e⟩ | ⟨h,e⟩<;>omega
 rw [if_neg hx0] at hz hf he;rw [show x/(d:Int)=z by omega,he];exact aK rfl
theorem Eu (m:Nat) (hm:(bd m).length≤4:=by omega):aM prog 257 [(.one (bT m):aE)] (.ret [.one (.int .i64 m)]):=by
 refine bZ func257 SA ?_;refine bB {i:Nat // i≤(bd m).length} (fun g=>[.one (.int .i64 (bv ((bd m).take g.1):Nat)), .one (.int .i64 g.1)]) (fun g=>(bd m).length-g.1) ⟨0,bV _⟩ aN.rfl (fun _=>rfl) ?_;rintro ⟨i,hi⟩;dsimp only [aD,aC] at hi ⊢;apply vn (aU fL (aP _)) rfl;apply vn aZ rfl;refine vs _ rfl ?_ ?_<;>intro h3
 ·obtain ⟨x,hx⟩:∃ x,(bd m)[i]? = some x:=⟨_,bI (by omega)⟩
  have hxB:=(gX m).get hx;have hb:=KG ((gX m).take i);rw [List.length_take,Nat.min_eq_left hi] at hb;have hp:=Mi (i:=i);have hb2:=KG ((gX m).take (i+1));rw [List.length_take,Nat.min_eq_left (by omega)] at hb2;have hp2:=Mi (i:=i+1);have hsn:bv ((bd m).take (i+1))=bv ((bd m).take i)*32768+x:=by rw [take_succ hx,Cp]
  generalize bv ((bd m).take i)=y at *;apply vn (nE) rfl;dsimp only [aD,aC];apply vn (aV fL hx) rfl;apply vn (bG Pr) rfl;apply vn (aB) rfl;dsimp only [aD,aC];apply vn (aB) rfl;dsimp only [aD,aC];exact aR rfl ⟨⟨i+1,by omega⟩,⟨aE.Sub.of_eq (congrArg (fun q:Int=>aE.one (aG.int .i64 q)) (by show (y:Int)*32768+x=((bv ((bd m).take (i+1)):Nat):Int);omega)),aE.Sub.same,trivial⟩,by show (bd m).length-(i+1)<(bd m).length-i;omega⟩
 rw [show i=(bd m).length by omega,List.take_length,fD];exact aK rfl
set_option maxHeartbeats 1000000 in
theorem NO (x y:Int) (hs:(bd x.natAbs).length<17179869184:=by omega) (hs2:(bd y.natAbs).length<17179869184:=by omega):aM prog 212 [(zT x:aE),(zT y:aE)] (.ret [zT ((Nat.gcd x.natAbs y.natAbs:Nat):Int)]):=by
 refine bZ func212 Yu ?_;refine bB {p:Nat×Nat // Nat.gcd p.1 p.2=Nat.gcd x.natAbs y.natAbs∧(bd p.1).length<17179869184∧(bd p.2).length<17179869184} (fun p=>[.one (bT p.1.1), .one (bT p.1.2), .one (.int .i64 0), .one (.exact (.slice none 0 0))]) (fun p=>p.1.2) ⟨(x.natAbs,y.natAbs),rfl,hs,hs2⟩ aN.rfl (fun _=>rfl) ?_;rintro ⟨⟨a,b⟩,hg,ha,hb⟩;dsimp only [aD,aC] at hg ha hb ⊢;have hbz:(bd b).length=0↔b=0:=by rw [List.length_eq_zero_iff,EA]
 have hml:=eA (Nat.mod_le a b);apply vn (aU fL (aP _)) rfl;apply vn dH rfl;refine vs _ rfl ?_ ?_<;>intro h3
 ·have hb0:0<b:=by
   rcases Nat.eq_zero_or_pos b with h | h
   ·have:=hbz.2 h;omega
   ·exact h
  apply vn (aU fL (aP _)) rfl;dsimp only [aD,aC];apply vn eW rfl;refine vs _ rfl ?_ ?_<;>intro h6
  ·apply vn (aU fL (aP _)) rfl;apply vn eW rfl;dsimp only [aD,aC];refine vs _ rfl ?_ ?_<;>intro h9
   ·have h4:∀ n,(bd n).length≤4→n<1152921504606846976:=fun n hn=>Nat.lt_of_lt_of_le (DL n) (Mi hn);have ha4:=h4 a (by omega);have hb4:=h4 b (by omega);apply aA (Eu a) rfl;apply aA (Eu b) rfl;refine bB {p:Nat×Nat // Nat.gcd p.1 p.2=Nat.gcd x.natAbs y.natAbs∧p.1<1152921504606846976∧p.2<1152921504606846976} (fun p=>[.one (.int .i64 p.1.1), .one (.int .i64 p.1.2)]) (fun p=>p.1.2) ⟨(a,b),hg,ha4,hb4⟩ aN.rfl (fun _=>rfl) ?_;rintro ⟨⟨p,q⟩,hpq,hp,hq⟩;dsimp only [aD,aC] at hpq hp hq ⊢;apply vn gD rfl;refine vs _ rfl ?_ ?_<;>intro h14
    ·apply vn (Es (c:=((p%q:Nat):Int)) (by omega) (by rw [Int.tmod_eq_emod_of_nonneg (pX _),←Int.natCast_emod])) rfl;exact aR rfl ⟨⟨(q,p%q),by rw [←hpq,Nat.gcd_comm p q,Nat.gcd_rec q p,Nat.gcd_comm],hq,Nat.lt_of_le_of_lt (Nat.mod_le _ _) hp⟩,aN.rfl,Nat.mod_lt _ (by omega)⟩
    have hq0:q=0:=by omega
    subst hq0;rw [Nat.gcd_zero_right] at hpq;apply aA (iL p) rfl;dsimp only [aD,aC];rw [←hpq];exact aK rfl
   apply aA (jG a b hb0) rfl;dsimp only [aD,aC];exact aR rfl ⟨⟨(b,a%b),by rw [←hg,Nat.gcd_comm a b,Nat.gcd_rec b a,Nat.gcd_comm],hb,by show (bd (a%b)).length<_;omega⟩,aN.rfl,Nat.mod_lt _ hb0⟩
  apply aA (jG a b hb0) rfl;dsimp only [aD,aC];exact aR rfl ⟨⟨(b,a%b),by rw [←hg,Nat.gcd_comm a b,Nat.gcd_rec b a,Nat.gcd_comm],hb,by show (bd (a%b)).length<_;omega⟩,aN.rfl,Nat.mod_lt _ hb0⟩
 have hb0:b=0:=hbz.1 (by omega);subst hb0;rw [Nat.gcd_zero_right] at hg;apply aA (fV 1 (a:Int) (bd a) (gX _) (by rw [fD];rfl) (fun hne=>by rw [fD] at hne;exact Int.sign_eq_one_of_pos (by omega))) rfl;dsimp only [aD,aC];rw [←hg];exact aK rfl
open Go Go.Proofs Tryz Ord
def by3:Tr:=aW .eql 3 5 0 0 2 4 (.split (.u 1 0) (.need (.call 139 [(WK 1)] [(some 2)]) (.call ⟨.value (.func 139),#[(.const (I3 1))],#[2]⟩) 47 true (.ret [(G2 2)])) (.ret [(.agg [(U 0 2),(U 0 3)])]))
theorem aH3:aL prog f136 (fun _=>none) [.v (some 4)]=by3:=by kernel_rfl
def aZ1:Tr:=aW .eql 3 28 1 9 0 4 (.split (.u 10 0) (.ret [(.agg [(U 3 0),(U 3 1),(U 4 0),(U 4 1)])]) (aJ 213 [(W 3 1),(W 5 1)] [none,none] [36,38] [45,45] 269 false (aJ 213 [(W 4 1),(W 5 1)] [none,none] [44,46] [45,45] 269 false (aJ 211 [(W 3 0),(W 11 0)] [(some 2)] [51,52] [3,45] 47 false (.need (.call 211 [(WK 1),(W 13 0)] [(some 2)]) (.call ⟨.value (.func 211),#[(.const (I3 1)),(tT 54)],#[3,45]⟩) 47 true (.ret [(.agg [(U 15 0),(U 15 1),(U 16 0),(U 16 1)])]))))))
def bx5:Tr:=aW .eql 3 22 1 6 0 4 (.split (.u 7 0) (.need (.prim [(W 5 1),(WK 0)] none) (.indexAddr 45 (tT 26) (.const (I3 0))) 0 false (dR 8 0 none 3 27 aZ1)) (aJ 213 [(W 3 1),(W 5 1)] [none,none] [36,38] [45,45] 269 false (aJ 213 [(W 4 1),(W 5 1)] [none,none] [44,46] [45,45] 269 false (aJ 211 [(W 3 0),(W 8 0)] [(some 2)] [51,52] [3,45] 47 false (.need (.call 211 [(WK 1),(W 10 0)] [(some 2)]) (.call ⟨.value (.func 211),#[(.const (I3 1)),(tT 54)],#[3,45]⟩) 47 true (.ret [(.agg [(U 12 0),(U 12 1),(U 13 0),(U 13 1)])]))))))
def aH7:Tr:=aW .eql 3 28 1 7 0 4 (.split (.u 8 0) (.ret [(.agg [(U 0 0),(U 0 1),(U 1 0),(U 1 1)])]) (aJ 213 [(W 0 1),(W 3 1)] [none,none] [36,38] [45,45] 269 false (aJ 213 [(W 1 1),(W 3 1)] [none,none] [44,46] [45,45] 269 false (aJ 211 [(W 0 0),(W 9 0)] [(some 2)] [51,52] [3,45] 47 false (.need (.call 211 [(WK 1),(W 11 0)] [(some 2)]) (.call ⟨.value (.func 211),#[(.const (I3 1)),(tT 54)],#[3,45]⟩) 47 true (.ret [(.agg [(U 13 0),(U 13 1),(U 14 0),(U 14 1)])]))))))
def aI7:Tr:=aW .eql 3 22 1 4 0 4 (.split (.u 5 0) (.need (.prim [(W 3 1),(WK 0)] none) (.indexAddr 45 (tT 26) (.const (I3 0))) 0 false (dR 6 0 none 3 27 aH7)) (aJ 213 [(W 0 1),(W 3 1)] [none,none] [36,38] [45,45] 269 false (aJ 213 [(W 1 1),(W 3 1)] [none,none] [44,46] [45,45] 269 false (aJ 211 [(W 0 0),(W 6 0)] [(some 2)] [51,52] [3,45] 47 false (.need (.call 211 [(WK 1),(W 8 0)] [(some 2)]) (.call ⟨.value (.func 211),#[(.const (I3 1)),(tT 54)],#[3,45]⟩) 47 true (.ret [(.agg [(U 10 0),(U 10 1),(U 11 0),(U 11 1)])]))))))
def bq9:Tr:=aW .lss 3 11 0 1 0 4 (.split (.u 2 0) (aJ 183 [(G2 0)] [(some 2)] [13] [47] 47 false (aJ 183 [(G2 1)] [(some 2)] [15] [47] 47 true (aJ 212 [(G2 3),(G2 4)] [(some 2)] [17,18] [47,47] 47 true (cU 5 1 21 45 bx5)))) (aJ 212 [(G2 0),(G2 1)] [(some 2)] [17,18] [47,47] 47 true (cU 3 1 21 45 aI7)))
theorem VX:aL prog f137 (fun _=>none) [.v (some 2), .v (some 2)]=bq9:=by kernel_rfl
def ax0:Tr:=.ret [(.agg [(U 1 0),(U 1 1),(U 2 0),(U 2 1)])]
def bs8:Tr:=aJ 139 [(W 0 0)] [(some 2)] [3] [2] 47 true (.need (.call 139 [(WK 1)] [(some 2)]) (.call ⟨.value (.func 139),#[(.const (I3 1))],#[2]⟩) 47 true ax0)
theorem az9:aL prog f50 (fun _=>none) [.v none]=bs8:=by kernel_rfl
def bA4:Tr:=aJ 139 [(W 0 0)] [(some 2)] [5] [2] 47 false (aJ 139 [(W 1 0)] [(some 2)] [7] [2] 47 true (aJ 137 [(G2 2),(G2 3)] [(some 4)] [6,8] [47,47] 49 true (.ret [(G4 4)])))
theorem bp3:aL prog f79 (fun _=>none) [.v none, .v none]=bA4:=by kernel_rfl
def by4:Tr:=aJ 135 [(G2 1),(G2 4)] [(some 2)] [11,13] [47,47] 47 false (aJ 138 [(G2 3),(G2 5)] [(some 2)] [9,14] [47,47] 47 false (aJ 136 [(G4 0)] [(some 2)] [16] [49] 47 false (aJ 136 [(G4 1)] [(some 2)] [18] [49] 47 false (aJ 135 [(G2 7),(G2 8)] [(some 2)] [17,19] [47,47] 47 true (aJ 137 [(G2 6),(G2 9)] [(some 4)] [15,20] [47,47] 49 true (.ret [(G4 10)]))))))
def bj5:Tr:=aJ 136 [(G4 1)] [(some 2)] [7] [49] 47 false (aJ 135 [(G2 0),(G2 2)] [(some 2)] [6,8] [47,47] 47 false (aJ 136 [(G4 0)] [(some 2)] [12] [49] 47 false by4))
theorem aS5:aL prog f48 (fun _=>none) [.v (some 4), .v (some 4)]=bj5:=by kernel_rfl
def bi0:Tr:=aJ 105 [(G4 1)] [(some 4)] [6] [49] 49 true (aJ 48 [(G4 0),(G4 2)] [(some 4)] [5,7] [49,49] 49 true (.ret [(G4 3)]))
theorem aS9:aL prog f141 (fun _=>none) [.v (some 4), .v (some 4)]=bi0:=by kernel_rfl
def as0:Tr:=.ret [(G4 6)]
def bA9:Tr:=aJ 135 [(G2 0),(G2 1)] [(some 2)] [6,8] [47,47] 47 false (aJ 136 [(G4 0)] [(some 2)] [10] [49] 47 false (aJ 136 [(G4 1)] [(some 2)] [12] [49] 47 false (aJ 135 [(G2 3),(G2 4)] [(some 2)] [11,13] [47,47] 47 true (aJ 137 [(G2 2),(G2 5)] [(some 4)] [9,14] [47,47] 49 true as0))))
theorem aM5:aL prog f104 (fun _=>none) [.v (some 4), .v (some 4)]=bA9:=by kernel_rfl
def bt0:Tr:=aJ 136 [(G4 1)] [(some 2)] [7] [49] 47 false (aJ 135 [(G2 0),(G2 2)] [(some 2)] [6,8] [47,47] 47 false (aJ 136 [(G4 0)] [(some 2)] [10] [49] 47 false (aJ 135 [(G2 4),(G2 1)] [(some 2)] [11,13] [47,47] 47 true (aJ 137 [(G2 3),(G2 5)] [(some 4)] [9,14] [47,47] 49 true as0))))
theorem aG0:aL prog f102 (fun _=>none) [.v (some 4), .v (some 4)]=bt0:=by kernel_rfl
def as7:Tr:=aJ 136 [(G4 0)] [(some 2)] [6] [49] 47 true ax0
def bs9:Tr:=aJ 183 [(G2 0)] [(some 2)] [4] [47] 47 false as7
theorem ba0:aL prog f105 (fun _=>none) [.v (some 4)]=bs9:=by kernel_rfl
def bj2:Tr:=aJ 148 [(G2 0)] [(some 2)] [4] [47] 47 false as7
theorem aN2:aL prog f60 (fun _=>none) [.v (some 4)]=bj2:=by kernel_rfl
def br1:Tr:=aJ 136 [(G4 1)] [(some 2)] [7] [49] 47 false (aJ 135 [(G2 0),(G2 2)] [(some 2)] [6,8] [47,47] 47 false (aJ 136 [(G4 0)] [(some 2)] [12] [49] 47 false (aJ 135 [(G2 1),(G2 4)] [(some 2)] [11,13] [47,47] 47 true (aJ 134 [(G2 3),(G2 5)] [none] [9,14] [47,47] 3 true (.ret [(W 6 0)])))))
theorem bc7:aL prog f47 (fun _=>none) [.v (some 4), .v (some 4)]=br1:=by kernel_rfl
def br7:Tr:=.ret [(W 0 0)]
theorem ZM:aL prog f46 (fun _=>none) [.v (some 4)]=br7:=by kernel_rfl
structure RQ where
 q:Rat
 z:Bool
 h:z=true→q=0
def RQ.of (q:Rat):RQ:=⟨q,false,fun h=>by cases h⟩
def RQ.nil:RQ:=⟨0,true,fun _=>rfl⟩
abbrev rC (a:RQ):List aG:=[.int .i64 a.q.num.sign,bT a.q.num.natAbs, .int .i64 (if a.z then 0 else 1),bT (if a.z then 0 else a.q.den)]
abbrev fO (a:RQ):aE:=.agg (rC a)
theorem RQ.mS (q:Rat):(RQ.of q).q=q:=rfl
theorem aN8 (q:Rat):zT (q.den:Int) = .agg [.int .i64 1,bT q.den]:=MY q.den_pos
theorem eI:aY aG.Sub [.int .i64 0, .exact (.slice none 0 0), .int .i64 0, .exact (.slice none 0 0)] (rC RQ.nil):=⟨aG.Sub.same,rJ rfl,aG.Sub.same,rJ rfl,trivial⟩
theorem iW (a:RQ):aM prog 136 [(fO a:aE)] (.ret [zT (a.q.den:Int)]):=by
 refine bZ func136 aH3 ?_;apply vn bK rfl;refine vs _ rfl ?_ ?_<;>intro h1
 ·have ha:a.z=true:=by cases h:a.z<;>simp_all
  have hq:=a.h ha;apply aA (iL 1) rfl;dsimp only [aD,aC];rw [hq];exact aK rfl
 have ha:a.z=false:=by cases h:a.z<;>simp_all
 refine aK ?_;rw [aN8];show [aE.agg [.int .i64 (if a.z then 0 else 1),bT (if a.z then 0 else a.q.den)]]=_;rw [ha];rfl
theorem fG {n B:Nat} (h:n<2^B):(bd n).length≤B:=jU (Nat.lt_of_lt_of_le h (Nat.pow_le_pow_left (by omega) B))
def wC (n d:Int):Rat:=mkRat (if d<0 then -n else n) d.natAbs
theorem an4 {z:Int} {d:Nat} (hd:d≠0:=by omega):(mkRat z d).num=z/((z.natAbs.gcd d:Nat):Int)∧(mkRat z d).den=d/z.natAbs.gcd d∧(mkRat z d).num.natAbs=z.natAbs/z.natAbs.gcd d∧(mkRat z d).num.sign=z.sign:=by
 obtain ⟨h1,h2⟩:=Wq (z:=z) hd;have hg:0<z.natAbs.gcd d:=Nat.gcd_pos_of_pos_right _ (by omega);have hgz:z≠0→z.natAbs.gcd d≤z.natAbs:=fun h=>Nat.gcd_le_left _ (by omega)
 have h3:(mkRat z d).num.natAbs=z.natAbs/z.natAbs.gcd d:=by
  rw [h1];generalize z.natAbs/z.natAbs.gcd d=t;split<;>omega
 refine ⟨?_,h2,h3,?_⟩
 ·rw [←Rat.normalize_eq_mkRat hd,Rat.normalize_eq hd]
 ·rcases cG z with ⟨h,e⟩ | ⟨h,e⟩ | ⟨h,e⟩
  ·rw [e,h1,decide_eq_true h,if_pos rfl];have:=Nat.div_pos (hgz (by omega)) hg;exact Int.sign_eq_neg_one_of_neg (by omega)
  ·rw [e];subst h;rw [Rat.zero_mkRat];rfl
  ·rw [e,h1,decide_eq_false (by omega),if_neg (by simp)];have:=Nat.div_pos (hgz (by omega)) hg;exact Int.sign_eq_one_of_pos (by omega)
theorem zX {g:Nat} (h:(bd g).length=1) {x:Nat} (hx:(bd g)[0]? = some x):g=x:=by
 match hb:bd g,h with
 | [y],_=>
   rw [hb] at hx;simp only [List.getElem?_cons_zero,aO] at hx;subst hx;rw [←fD g,hb,Cw];simp [bv,val]
theorem yA {q:Rat}:fO (RQ.of q) = .agg [.int .i64 q.num.sign,bT q.num.natAbs, .int .i64 1,bT q.den]:=rfl
set_option maxHeartbeats 1000000 in
theorem rP (n d:Int) (hd:d≠0:=by omega) (hs2:(bd d.natAbs).length<8589934592:=by omega) (hs:(bd n.natAbs).length<8589934592:=by omega):aM prog 137 [(zT n:aE),(zT d:aE)] (.ret [fO (.of (wC n d))]):=by
 refine bZ func137 VX ?_;have hsd:=cG d
 have key:∀ m:Int,m.natAbs=n.natAbs→wC n d=mkRat m d.natAbs→(wC n d).den=d.natAbs/Nat.gcd n.natAbs d.natAbs∧(wC n d).num.natAbs=n.natAbs/Nat.gcd n.natAbs d.natAbs∧(wC n d).num.sign=m.sign:=fun m hm e=>by
  have:=an4 (z:=m) (d:=d.natAbs);rw [hm] at this;rw [e];exact ⟨this.2.1,this.2.2.1,this.2.2.2⟩
 have hg:0<Nat.gcd n.natAbs d.natAbs:=Nat.gcd_pos_of_pos_right _ (by omega);have hgd:Nat.gcd n.natAbs d.natAbs≤d.natAbs:=Nat.gcd_le_right _ (by omega);have hgl:=eA hgd;have hdg:=Nat.div_pos hgd hg;have hnl:=eA (Nat.div_le_self n.natAbs (Nat.gcd n.natAbs d.natAbs));have hdl:=eA (Nat.div_le_self d.natAbs (Nat.gcd n.natAbs d.natAbs));apply vn aZ rfl;refine vs _ rfl ?_ ?_<;>intro h1
 ·have hd0:d<0:=by rcases hsd with ⟨h,e⟩ | ⟨h,e⟩ | ⟨h,e⟩<;>omega
  have hR:wC n d=mkRat (-n) d.natAbs:=by rw [wC,if_pos hd0]
  obtain ⟨k1,k2,k3⟩:=key (-n) (Int.natAbs_neg n) hR;generalize wC n d=q at *;apply aA (Cj n) rfl;apply aA (Cj d) rfl;dsimp only [aD,aC];have hc:=NO (-n) (-d) (by rw [Int.natAbs_neg];omega) (by rw [Int.natAbs_neg];omega);rw [Int.natAbs_neg,Int.natAbs_neg] at hc;apply aA hc rfl;generalize hG:Nat.gcd n.natAbs d.natAbs=g at *;apply vn (aU fL (aP _)) rfl;apply vn bK rfl;dsimp only [aD,aC];refine vs _ rfl ?_ ?_<;>intro h7
  ·obtain ⟨x,hx⟩:∃ x,(bd g)[0]? = some x:=⟨_,bI (by rw [Int.natAbs_natCast] at h7;omega)⟩
   apply vn (aV fL (show (bd ((g:Int)).natAbs)[0]? = some x from hx)) rfl;apply vn (bG Pr) rfl;apply vn bK rfl;dsimp only [aD,aC];refine vs _ rfl ?_ ?_<;>intro h11
   ·have hg1:g=1:=by
     have:=zX (g:=g) (by rw [Int.natAbs_natCast] at h7;omega) hx;omega
    rw [hg1,Nat.div_one] at k1 k2;refine aK ?_;rw [yA,k3,k2,k1];show [aE.agg [.int .i64 (-n).sign,bT (-n).natAbs, .int .i64 (-d).sign,bT (-d).natAbs]]=_;rw [Int.natAbs_neg,Int.natAbs_neg,Int.sign_eq_one_of_pos (show 0 < -d by omega)]
   have ho1:=jG n.natAbs g hg;have ho2:=jG d.natAbs g hg;rw [←k2] at ho1 hnl;rw [←k1] at ho2 hdl hdg;have hn':(-n).natAbs=n.natAbs:=Int.natAbs_neg n;have hd':(-d).natAbs=d.natAbs:=Int.natAbs_neg d;rw [←hn'] at ho1;rw [←hd'] at ho2;apply aA ho1 rfl;apply aA ho2 rfl;apply aA (fV (-n).sign q.num _ (gX _) (by rw [fD]) (fun _=>k3)) rfl;dsimp only [aD,aC];apply aA (fV 1 (q.den:Int) _ (gX _) (by rw [fD];rfl) (fun _=>Int.sign_eq_one_of_pos (by omega))) rfl;dsimp only [aD,aC];refine aK ?_;rw [yA];show [aE.agg [.int .i64 q.num.sign,bT q.num.natAbs, .int .i64 (q.den:Int).sign,bT (q.den:Int).natAbs]]=_;rw [Int.sign_eq_one_of_pos (show (0:Int)<q.den by omega),Int.natAbs_natCast]
  have ho1:=jG n.natAbs g hg;have ho2:=jG d.natAbs g hg;rw [←k2] at ho1 hnl;rw [←k1] at ho2 hdl hdg;have hn':(-n).natAbs=n.natAbs:=Int.natAbs_neg n;have hd':(-d).natAbs=d.natAbs:=Int.natAbs_neg d;rw [←hn'] at ho1;rw [←hd'] at ho2;apply aA ho1 rfl;apply aA ho2 rfl;apply aA (fV (-n).sign q.num _ (gX _) (by rw [fD]) (fun _=>k3)) rfl;dsimp only [aD,aC];apply aA (fV 1 (q.den:Int) _ (gX _) (by rw [fD];rfl) (fun _=>Int.sign_eq_one_of_pos (by omega))) rfl;dsimp only [aD,aC];refine aK ?_;rw [yA];show [aE.agg [.int .i64 q.num.sign,bT q.num.natAbs, .int .i64 (q.den:Int).sign,bT (q.den:Int).natAbs]]=_;rw [Int.sign_eq_one_of_pos (show (0:Int)<q.den by omega),Int.natAbs_natCast]
 have hd0:0<d:=by rcases hsd with ⟨h,e⟩ | ⟨h,e⟩ | ⟨h,e⟩<;>omega
 have hR:wC n d=mkRat n d.natAbs:=by rw [wC,if_neg (by omega)]
 obtain ⟨k1,k2,k3⟩:=key n rfl hR;generalize wC n d=q at *;have hc:=NO n d;apply aA hc rfl;generalize hG:Nat.gcd n.natAbs d.natAbs=g at *;apply vn (aU fL (aP _)) rfl;apply vn bK rfl;dsimp only [aD,aC];refine vs _ rfl ?_ ?_<;>intro h26
 ·obtain ⟨x,hx⟩:∃ x,(bd g)[0]? = some x:=⟨_,bI (by rw [Int.natAbs_natCast] at h26;omega)⟩
  apply vn (aV fL (show (bd ((g:Int)).natAbs)[0]? = some x from hx)) rfl;apply vn (bG Pr) rfl;apply vn bK rfl;dsimp only [aD,aC];refine vs _ rfl ?_ ?_<;>intro h30
  ·have hg1:g=1:=by
    have:=zX (g:=g) (by rw [Int.natAbs_natCast] at h26;omega) hx;omega
   rw [hg1,Nat.div_one] at k1 k2;refine aK ?_;rw [yA,k3,k2,k1];show [aE.agg [.int .i64 n.sign,bT n.natAbs, .int .i64 d.sign,bT d.natAbs]]=_;rw [Int.sign_eq_one_of_pos (show 0<d by omega)]
  have ho1:=jG n.natAbs g hg;have ho2:=jG d.natAbs g hg;rw [←k2] at ho1 hnl;rw [←k1] at ho2 hdl hdg;apply aA ho1 rfl;apply aA ho2 rfl;apply aA (fV n.sign q.num _ (gX _) (by rw [fD]) (fun _=>k3)) rfl;dsimp only [aD,aC];apply aA (fV 1 (q.den:Int) _ (gX _) (by rw [fD];rfl) (fun _=>Int.sign_eq_one_of_pos (by omega))) rfl;dsimp only [aD,aC];refine aK ?_;rw [yA];show [aE.agg [.int .i64 q.num.sign,bT q.num.natAbs, .int .i64 (q.den:Int).sign,bT (q.den:Int).natAbs]]=_;rw [Int.sign_eq_one_of_pos (show (0:Int)<q.den by omega),Int.natAbs_natCast]
 have ho1:=jG n.natAbs g hg;have ho2:=jG d.natAbs g hg;rw [←k2] at ho1 hnl;rw [←k1] at ho2 hdl hdg;apply aA ho1 rfl;apply aA ho2 rfl;apply aA (fV n.sign q.num _ (gX _) (by rw [fD]) (fun _=>k3)) rfl;dsimp only [aD,aC];apply aA (fV 1 (q.den:Int) _ (gX _) (by rw [fD];rfl) (fun _=>Int.sign_eq_one_of_pos (by omega))) rfl;dsimp only [aD,aC];refine aK ?_;rw [yA];show [aE.agg [.int .i64 q.num.sign,bT q.num.natAbs, .int .i64 (q.den:Int).sign,bT (q.den:Int).natAbs]]=_;rw [Int.sign_eq_one_of_pos (show (0:Int)<q.den by omega),Int.natAbs_natCast]
theorem yL {n:Int} {d:Nat}:wC n (d:Int)=mkRat n d:=by
 rw [wC,if_neg (by omega),Int.natAbs_natCast]
theorem JO {a b:Rat} (hb:b≠0):wC (a.num*(b.den:Int)) ((a.den:Int)*b.num)=a/b:=by
 have hn:b.num≠0:=fun e=>hb (Rat.num_eq_zero.1 e);have ha:=a.den_pos;rw [←Wy hb,wC,Int.natAbs_mul,Int.natAbs_natCast];by_cases h:b.num<0
 ·rw [if_pos (Int.mul_neg_of_pos_of_neg (by omega) h),decide_eq_true h,if_pos rfl,Int.mul_neg]
 ·rw [if_neg (by have:=Int.mul_nonneg (show (0:Int)≤a.den by omega) (show 0≤b.num by omega);omega),decide_eq_false h,if_neg (by simp)]
theorem am0 {n d:Int} (hd:d≠0):wC n d=(n:Rat)/(d:Rat):=by
 have h:=JO (a:=(n:Rat)) (b:=(d:Rat)) (by rw [Ne,←Rat.num_eq_zero,Rat.num_intCast];exact hd);rw [Rat.num_intCast,Rat.num_intCast,Rat.den_intCast,Rat.den_intCast] at h;rw [←h];congr 1<;>omega
theorem Fit.bd {B:Nat} {q:Rat} (h:Fit B q):(bd q.num.natAbs).length≤B∧(bd q.den).length≤B:=⟨fG h.1,fG h.2⟩
theorem gN (n:Int) (h1:-9223372036854775808≤n:=by omega) (h2:n<9223372036854775808:=by omega):aM prog 50 [(.one (.int .i64 n):aE)] (.ret [fO (.of (n:Rat))]):=by
 refine bZ func50 az9 ?_;apply aA (iL n h1 h2) rfl;apply aA (iL 1) rfl;dsimp only [aD,aC];rw [yA,Rat.num_intCast,Rat.den_intCast];exact aK rfl
theorem EM (n d:Int) (hd:d≠0:=by omega) (h1:-9223372036854775808≤n:=by omega) (h2:n<9223372036854775808:=by omega) (h3:-9223372036854775808≤d:=by omega) (h4:d<9223372036854775808:=by omega):aM prog 79 [(.one (.int .i64 n):aE),(.one (.int .i64 d):aE)] (.ret [fO (.of ((n:Rat)/(d:Rat)))]):=by
 refine bZ func79 bp3 ?_;apply aA (iL n h1 h2) rfl;apply aA (iL d h3 h4) rfl;dsimp only [aD,aC];have hn:=fG (n:=n.natAbs) (B:=64) (by omega);have hdd:=fG (n:=d.natAbs) (B:=64) (by omega);apply aA (rP n d hd) rfl;rw [am0 hd];exact aK rfl
theorem Eo (a:RQ):aM prog 105 [(fO a:aE)] (.ret [fO (.of (-a.q))]):=by
 refine bZ func105 ba0 ?_;apply aA (Cj a.q.num) rfl;apply aA (iW a) rfl;dsimp only [aD,aC];refine aK ?_;rw [yA,Rat.neg_num,Rat.neg_den];show [aE.agg [.int .i64 (-a.q.num).sign,bT (-a.q.num).natAbs, .int .i64 (a.q.den:Int).sign,bT (a.q.den:Int).natAbs]]=_;have:=a.q.den_pos;rw [Int.sign_eq_one_of_pos (show (0:Int)<a.q.den by omega),Int.natAbs_natCast]
theorem sY (a:RQ):aM prog 60 [(fO a:aE)] (.ret [fO (.of a.q.abs)]):=by
 refine bZ func60 aN2 ?_;apply aA (OF a.q.num) rfl;apply aA (iW a) rfl;dsimp only [aD,aC];refine aK ?_;rw [yA,(mO a.q).1,(mO a.q).2];show [aE.agg [.int .i64 ((a.q.num.natAbs:Nat):Int).sign,bT ((a.q.num.natAbs:Nat):Int).natAbs, .int .i64 (a.q.den:Int).sign,bT (a.q.den:Int).natAbs]]=_;have:=a.q.den_pos;rw [Int.sign_eq_one_of_pos (show (0:Int)<a.q.den by omega)];simp only [Int.natAbs_natCast]
theorem yC (a:RQ):aM prog 46 [(fO a:aE)] (.ret [.one (.int .i64 a.q.num.sign)]):=by
 refine bZ func46 ZM ?_;exact aK rfl
theorem eS (a b:RQ) (A B:Nat) (ha:Fit A a.q) (hb:Fit B b.q) (h:A+B≤4294967296:=by omega):aM prog 104 [(fO a:aE),(fO b:aE)] (.ret [fO (.of (a.q*b.q))]):=by
 refine bZ func104 aM5 ?_;obtain ⟨ha1,ha2⟩:=Fit.bd ha;obtain ⟨hb1,hb2⟩:=Fit.bd hb;have hn:=fG (bM ha.1 hb.1);have hd:=fG (bM ha.2 hb.2);have hpa:=a.q.den_pos;have hpb:=b.q.den_pos;apply aA (iO a.q.num b.q.num) rfl;apply aA (iW a) rfl;apply aA (iW b) rfl;dsimp only [aD,aC];apply aA (iO (a.q.den:Int) (b.q.den:Int) (by rw [Int.natAbs_natCast,Int.natAbs_natCast];omega)) rfl;rw [←Int.natCast_mul];apply aA (rP _ ((a.q.den*b.q.den:Nat):Int) (by have:=Nat.mul_pos hpa hpb;omega) (by rw [Int.natAbs_natCast];omega) (by rw [Int.natAbs_mul];omega)) rfl;rw [yL,←Rat.mul_def'];exact aK rfl
theorem jK (a b:RQ) (A B:Nat) (ha:Fit A a.q) (hb:Fit B b.q) (h:A+B≤4294967296:=by omega):aM prog 48 [(fO a:aE),(fO b:aE)] (.ret [fO (.of (a.q+b.q))]):=by
 refine bZ func48 aS5 ?_;obtain ⟨ha1,ha2⟩:=Fit.bd ha;obtain ⟨hb1,hb2⟩:=Fit.bd hb;have hn1:=fG (bM ha.1 hb.2);have hn2:=fG (bM hb.1 ha.2);have hd:=fG (bM ha.2 hb.2);have hpa:=a.q.den_pos;have hpb:=b.q.den_pos
 have hsum:(bd (a.q.num*(b.q.den:Int)+b.q.num*(a.q.den:Int)).natAbs).length≤A+B+1:=by
  apply fG;have h1:=bM ha.1 hb.2;have h2:=bM hb.1 ha.2;rw [Nat.add_comm B A] at h2;rw [Nat.pow_succ];refine Nat.lt_of_le_of_lt (Int.natAbs_add_le _ _) ?_;rw [Int.natAbs_mul,Int.natAbs_mul,Int.natAbs_natCast,Int.natAbs_natCast];omega
 apply aA (iW b) rfl;apply aA (iO a.q.num (b.q.den:Int) (by rw [Int.natAbs_natCast];omega)) rfl;apply aA (iW a) rfl;dsimp only [aD,aC];apply aA (iO b.q.num (a.q.den:Int) (by rw [Int.natAbs_natCast];omega)) rfl;apply aA (OT _ _ (by rw [Int.natAbs_mul,Int.natAbs_natCast];omega) (by rw [Int.natAbs_mul,Int.natAbs_natCast];omega)) rfl;apply aA (iW a) rfl;dsimp only [aD,aC];apply aA (iW b) rfl;apply aA (iO (a.q.den:Int) (b.q.den:Int) (by rw [Int.natAbs_natCast,Int.natAbs_natCast];omega)) rfl;rw [←Int.natCast_mul a.q.den b.q.den];apply aA (rP _ ((a.q.den*b.q.den:Nat):Int) (by have:=Nat.mul_pos hpa hpb;omega) (by rw [Int.natAbs_natCast];omega)) rfl;rw [yL,←Rat.add_def'];exact aK rfl
theorem CQ (a b:RQ) (A B:Nat) (ha:Fit A a.q) (hb:Fit B b.q) (h:A+B≤4294967296:=by omega):aM prog 141 [(fO a:aE),(fO b:aE)] (.ret [fO (.of (a.q-b.q))]):=by
 refine bZ func141 aS9 ?_;apply aA (Eo b) rfl;apply aA (jK a (.of (-b.q)) A B ha hb.neg h) rfl;rw [RQ.mS,←Rat.sub_eq_add_neg];exact aK rfl
theorem xZ (a b:RQ) (A B:Nat) (hb0:b.q≠0) (ha:Fit A a.q) (hb:Fit B b.q) (h:A+B≤4294967296:=by omega):aM prog 102 [(fO a:aE),(fO b:aE)] (.ret [fO (.of (a.q/b.q))]):=by
 refine bZ func102 aG0 ?_;obtain ⟨ha1,ha2⟩:=Fit.bd ha;obtain ⟨hb1,hb2⟩:=Fit.bd hb;have hn:=fG (bM ha.1 hb.2);have hd:=fG (bM ha.2 hb.1);have hpa:=a.q.den_pos;have hnb:b.q.num≠0:=fun e=>hb0 (Rat.num_eq_zero.1 e);apply aA (iW b) rfl;apply aA (iO a.q.num (b.q.den:Int) (by rw [Int.natAbs_natCast];omega)) rfl;apply aA (iW a) rfl;dsimp only [aD,aC];apply aA (iO (a.q.den:Int) b.q.num (by rw [Int.natAbs_natCast];omega)) rfl;apply aA (rP _ _ (Int.mul_ne_zero (by omega) hnb) (by rw [Int.natAbs_mul,Int.natAbs_natCast];omega) (by rw [Int.natAbs_mul,Int.natAbs_natCast];omega)) rfl;rw [JO hb0];exact aK rfl
theorem sJ (a b:RQ) (A B:Nat) (ha:Fit A a.q) (hb:Fit B b.q) (h:A+B≤4294967296:=by omega):aM prog 47 [(fO a:aE),(fO b:aE)] (.ret [.one (.int .i64 (lG a.q b.q))]):=by
 refine bZ func47 bc7 ?_;obtain ⟨ha1,ha2⟩:=Fit.bd ha;obtain ⟨hb1,hb2⟩:=Fit.bd hb;have hn1:=fG (bM ha.1 hb.2);have hn2:=fG (bM hb.1 ha.2);apply aA (iW b) rfl;apply aA (iO a.q.num (b.q.den:Int) (by rw [Int.natAbs_natCast];omega)) rfl;apply aA (iW a) rfl;dsimp only [aD,aC];apply aA (iO b.q.num (a.q.den:Int) (by rw [Int.natAbs_natCast];omega)) rfl;apply aA (ai2 _ _ (by rw [Int.natAbs_mul,Int.natAbs_natCast];omega) (by rw [Int.natAbs_mul,Int.natAbs_natCast];omega)) rfl;rw [←Bc];exact aK rfl
end Go.Sy
