/- Part. -/
import Derived.Test.YtacgmapjhpghkaaGreatDoorNb
set_option linter.all false
namespace Go.Sy
open Go Go.Proofs Tryz Ord
def VX:Tr:=.ret [(W 1 0)]
def br6:Tr:=.split (.u 3 0) (.need (.prim [(W 1 0),(WK 0)] none) (.indexAddr 47 (tT 7) (.const (I3 0))) 0 false (eI 4 0 none 3 8 (bI .eql 3 9 0 5 0 4 (.split (.u 6 0) (.need (.prim [(W 1 0),(WK 1)] none) (.slice 47 (tT 12) (some (.const (I3 1))) none none) 47 false (.back 0 [lV 7 0])) VX)))) VX
def bn1:Tr:=.loop 0 [lV 0 0] (dS 1 0 3 47 (bI .gtr 3 4 0 2 0 4 br6))
theorem aj1:aV prog f229 (fun _=>none) [.v none]=bn1:=by kernel_rfl
def by0:Tr:=aZ 229 [(W 1 0)] [none] [5] [47] 47 true (dS 2 0 7 47 (bI .eql 3 8 0 3 0 4 (.split (.u 4 0) (.ret [(.agg [(tE (.int .i64 0)),tN])]) (.ret [(.agg [(U 0 0),(U 2 0)])]))))
theorem aC1:aV prog f189 (fun _=>none) [.v none, .v none]=by0:=by kernel_rfl
def bn7:Tr:=bI .lss 3 12 0 5 0 4 (.split (.u 6 0) (.need (.prim [(W 5 0)] none) (.unOp .neg 3 (tT 14)) 3 false (.need (.lit 1 [[(.u 7 0)]]) (.buildSlice 47 1 #[(0,(tT 16))]) 47 false (.need (.app 1 8 (some 8) none (some 3)) (.call ⟨.builtin .append,#[(tT 17),(tT 18)],#[47,47]⟩) 47 false (bI .quo 2 20 32768 2 0 2 (.back 0 [lV 10 0, .row 9]))))) (.need (.lit 1 [[(.u 5 0)]]) (.buildSlice 47 1 #[(0,(tT 16))]) 47 false (.need (.app 1 8 (some 7) none (some 3)) (.call ⟨.builtin .append,#[(tT 17),(tT 18)],#[47,47]⟩) 47 false (bI .quo 2 20 32768 2 0 2 (.back 0 [lV 9 0, .row 8])))))
def aO0:Tr:=bI .rem 2 10 32768 2 0 2 bn7
def ag1:Tr:=.ret [(G2 5)]
def bp0:Tr:=bI .lss 2 6 0 0 0 4 (.split (.u 1 0) (.loop 0 [lV 0 0, .nilrow] (bI .neq 2 8 0 2 0 4 (.split (.u 4 0) aO0 (aZ 189 [(WK (-1)),(.one (.c (.sr 1 3)))] [(some 2)] [22,23] [3,47] 49 true ag1)))) (.loop 0 [lV 0 0, .nilrow] (bI .neq 2 8 0 2 0 4 (.split (.u 4 0) aO0 (aZ 189 [(WK 1),(.one (.c (.sr 1 3)))] [(some 2)] [22,23] [3,47] 49 true ag1)))))
theorem az9:aV prog f114 (fun _=>none) [.v none]=bp0:=by kernel_rfl
def aN3:Tr:=.ret [(WK (-1))]
def aN0:Tr:=.ret [(WK 1)]
def ba2:Tr:=eI 14 0 none 3 33 (eW 1 0 6 0 47 35 36 (eI 16 0 none 3 37 (cU .gtr 3 34 38 15 0 17 0 4 (.split (.u 18 0) aN0 (bI .add 3 20 1 6 0 3 (.back 0 [lV 5 0,lV 19 0]))))))
def aP2:Tr:=eW 0 0 6 0 47 22 23 (eI 9 0 none 3 24 (eW 1 0 6 0 47 26 27 (eI 11 0 none 3 28 (cU .lss 3 25 29 10 0 12 0 4 (.split (.u 13 0) aN3 (eW 0 0 6 0 47 31 32 ba2))))))
def ZU:Tr:=.ret [(WK 0)]
def bA1:Tr:=dS 1 0 8 47 (cU .neq 3 7 9 2 0 3 0 4 (.split (.u 4 0) (dS 0 0 11 47 (dS 1 0 13 47 (cU .lss 3 12 14 5 0 6 0 4 (.split (.u 7 0) aN3 aN0)))) (.loop 0 [lK 0,lK 0] (dS 0 0 17 47 (cU .lss 3 16 18 6 0 7 0 4 (.split (.u 8 0) aP2 ZU))))))
def bA5:Tr:=dS 0 0 6 47 bA1
theorem aj3:aV prog f227 (fun _=>none) [.v none, .v none]=bA5:=by kernel_rfl
def bp1:Tr:=.split (.u 3 0) ZU (dS 0 0 10 47 (bI .sub 3 11 1 4 0 3 (cU .sub 3 12 13 5 0 1 0 3 (eW 0 0 6 0 47 9 14 (eI 7 0 none 3 15 (.ret [(W 8 0)]))))))
def by5:Tr:=dS 0 0 6 47 (cU .geq 3 5 7 1 0 2 0 4 bp1)
theorem al0:aV prog f248 (fun _=>none) [.v none, .v none]=by5:=by kernel_rfl
def aK4:Tr:=.ret [(W 5 0)]
def br1:Tr:=dS 0 0 5 47 (dS 1 0 7 47 (cU .gtr 3 6 8 2 0 3 0 4 (.split (.u 4 0) (dS 0 0 10 47 aK4) (dS 1 0 12 47 aK4))))
theorem UX:aV prog f247 (fun _=>none) [.v none, .v none]=br1:=by kernel_rfl
def aX5:Tr:=bI .sub 3 40 32768 16 0 3 (bI .sub 3 43 1 4 0 3 (cU .sub 3 44 45 19 0 7 0 3 (.need (.idx 8 (.u 20 0)) (.indexAddr 47 (tT 42) (tT 46)) 0 false (.need (.strow 8 1 (.u 20 0) 0 [(.u 18 0)]) (.store 3 (tT 48) (tT 47)) 0 false (bI .add 3 21 1 7 0 3 (.back 0 [lK 1,lV 22 0, .row 21]))))))
def bb9:Tr:=.split (.u 17 0) aX5 (bI .sub 3 43 1 4 0 3 (cU .sub 3 44 45 18 0 7 0 3 (.need (.idx 8 (.u 19 0)) (.indexAddr 47 (tT 42) (tT 46)) 0 false (.need (.strow 8 1 (.u 19 0) 0 [(.u 16 0)]) (.store 3 (tT 48) (tT 47)) 0 false (bI .add 3 21 1 7 0 3 (.back 0 [lK (-1),lV 21 0, .row 20]))))))
def bd9:Tr:=bI .sub 3 40 32768 14 0 3 (bI .sub 3 43 1 4 0 3 (cU .sub 3 44 45 18 0 7 0 3 (.need (.idx 8 (.u 19 0)) (.indexAddr 47 (tT 42) (tT 46)) 0 false (.need (.strow 8 1 (.u 19 0) 0 [(.u 17 0)]) (.store 3 (tT 48) (tT 47)) 0 false (bI .add 3 21 1 7 0 3 (.back 0 [lK 1,lV 21 0, .row 20]))))))
def bl8:Tr:=.split (.u 16 0) bd9 (bI .sub 3 43 1 4 0 3 (cU .sub 3 44 45 17 0 7 0 3 (.need (.idx 8 (.u 18 0)) (.indexAddr 47 (tT 42) (tT 46)) 0 false (.need (.strow 8 1 (.u 18 0) 0 [(.u 14 0)]) (.store 3 (tT 48) (tT 47)) 0 false (bI .add 3 21 1 7 0 3 (.back 0 [lK 0,lV 20 0, .row 19]))))))
def bC9:Tr:=cU .mul 3 26 29 2 0 11 0 3 (cU .add 3 25 30 10 0 12 0 3 (cU .add 3 31 32 13 0 6 0 3 (bI .lss 3 34 0 14 0 4 (.split (.u 15 0) (bI .add 3 36 32768 14 0 3 (bI .geq 3 38 32768 16 0 4 bb9)) (bI .geq 3 38 32768 14 0 4 bl8)))))
def bo3:Tr:=bI .add 3 14 1 3 0 3 (.need (.make [(.int .i64 0)] 8 (.u 4 0) (.u 4 0)) (.makeSlice 47 (tT 16) (tT 16)) 47 false (.loop 0 [lK 0,lK 0, .row 5] (cU .lss 3 18 19 7 0 4 0 4 (.split (.u 9 0) (aZ 248 [(W 0 0),(W 7 0)] [none] [23,24] [47,3] 3 false (aZ 248 [(W 1 0),(W 7 0)] [none] [27,28] [47,3] 3 false bC9)) (aZ 229 [(.one (.c (.sr 1 8)))] [none] [49] [47] 47 true (.ret [(W 10 0)]))))))
def br7:Tr:=aZ 247 [(W 0 0),(W 1 0)] [none] [12,13] [47,47] 3 true bo3
theorem aA5:aV prog f226 (fun _=>none) [.v none, .v none, .v none]=br7:=by kernel_rfl
def br0:Tr:=.need (.prim [(W 0 0)] none) (.unOp .neg 3 (tT 4)) 3 false (.ret [(.agg [(U 1 0),(U 0 1)])])
theorem aC6:aV prog f217 (fun _=>none) [.v (some 2)]=br0:=by kernel_rfl
def VR:Tr:=.ret [(G2 8)]
def bu1:Tr:=cU .eql 3 14 16 0 0 1 0 4 (.split (.u 4 0) (.need (.call 226 [(W 0 1),(W 1 1),(WK 1)] [none]) (.call ⟨.value (.func 226),#[(tT 21),(tT 23),(.const (I3 1))],#[47,47,3]⟩) 47 true (aZ 189 [(W 0 0),(W 5 0)] [(some 2)] [19,24] [3,47] 49 true (.ret [(G2 6)]))) (aZ 227 [(W 0 1),(W 1 1)] [none] [27,29] [47,47] 3 true (bI .geq 3 30 0 5 0 4 (.split (.u 6 0) (.need (.call 226 [(W 0 1),(W 1 1),(WK (-1))] [none]) (.call ⟨.value (.func 226),#[(tT 35),(tT 37),(.const (I3 (-1)))],#[47,47,3]⟩) 47 true (aZ 189 [(W 0 0),(W 7 0)] [(some 2)] [33,38] [3,47] 49 true VR)) (.need (.call 226 [(W 1 1),(W 0 1),(WK (-1))] [none]) (.call ⟨.value (.func 226),#[(tT 43),(tT 45),(.const (I3 (-1)))],#[47,47,3]⟩) 47 true (aZ 189 [(W 1 0),(W 7 0)] [(some 2)] [41,46] [3,47] 49 true VR))))))
def bn4:Tr:=bI .eql 3 6 0 0 0 4 (.split (.u 2 0) (.ret [(G2 1)]) (bI .eql 3 10 0 1 0 4 (.split (.u 3 0) (.ret [(G2 0)]) bu1)))
theorem au4:aV prog f187 (fun _=>none) [.v (some 2), .v (some 2)]=bn4:=by kernel_rfl
def bx2:Tr:=aZ 217 [(G2 1)] [(some 2)] [6] [49] 49 true (aZ 187 [(G2 0),(G2 2)] [(some 2)] [5,7] [49,49] 49 true (.ret [(G2 3)]))
theorem aB2:aV prog f191 (fun _=>none) [.v (some 2), .v (some 2)]=bx2:=by kernel_rfl
def aV4:Tr:=bI .add 3 58 1 27 0 3 (bI .rem 3 60 32768 26 0 3 (.need (.idx 15 (.u 28 0)) (.indexAddr 47 (tT 55) (tT 59)) 0 false (.need (.strow 15 1 (.u 28 0) 0 [(.u 29 0)]) (.store 3 (tT 62) (tT 61)) 0 false (bI .quo 3 63 32768 26 0 3 (bI .sub 3 32 1 14 0 3 (.back 1 [lV 31 0,lV 32 0, .row 30]))))))
def be8:Tr:=eI 20 0 none 3 44 (eW 1 1 14 0 47 47 48 (eI 22 0 none 3 49 (cU .mul 3 45 50 21 0 23 0 3 (cU .add 3 40 51 19 0 24 0 3 (cU .add 3 52 53 25 0 13 0 3 (cU .add 3 56 57 8 0 14 0 3 aV4))))))
def aU7:Tr:=bI .geq 3 30 0 14 0 4 (.split (.u 16 0) (cU .add 3 35 36 8 0 14 0 3 (bI .add 3 37 1 17 0 3 (.need (.idx 15 (.u 18 0)) (.indexAddr 47 (tT 34) (tT 38)) 0 false (.need (.ldrow 15 (.u 18 0) 0 1 false) (.load 3 (tT 39)) 3 false (eW 0 1 8 0 47 42 43 be8))))) (.need (.idx 15 (.u 8 0)) (.indexAddr 47 (tT 65) (tT 66)) 0 false (.need (.strow 15 1 (.u 8 0) 0 [(.u 13 0)]) (.store 3 (tT 68) (tT 67)) 0 false (bI .sub 3 24 1 8 0 3 (.back 0 [lV 18 0, .row 17])))))
def by3:Tr:=bI .sub 3 20 1 6 0 3 (.loop 0 [lV 7 0, .row 5] (bI .geq 3 22 0 8 0 4 (.split (.u 10 0) (dS 1 1 27 47 (bI .sub 3 28 1 11 0 3 (.loop 1 [lK 0,lV 12 0, .row 9] aU7))) (cU .mul 3 70 72 0 0 1 0 3 (aZ 189 [(W 11 0),(.one (.c (.sr 1 9)))] [(some 2)] [73,74] [3,47] 49 true (.ret [(G2 12)]))))))
def bu9:Tr:=dS 0 1 11 47 (dS 1 1 14 47 (cU .add 3 12 15 2 0 3 0 3 (.need (.make [(.int .i64 0)] 8 (.u 4 0) (.u 4 0)) (.makeSlice 47 (tT 16) (tT 16)) 47 false (dS 0 1 19 47 by3))))
theorem ay1:aV prog f119 (fun _=>none) [.v (some 2), .v (some 2)]=bu9:=by kernel_rfl
def bu0:Tr:=aZ 191 [(G2 0),(G2 1)] [(some 2)] [5,6] [49,49] 49 true (.ret [(W 2 0)])
theorem aG5:aV prog f118 (fun _=>none) [.v (some 2), .v (some 2)]=bu0:=by kernel_rfl
abbrev rB (ds:List Nat):List (List aD):=ds.map fun (d:Nat)=>[aD.int .i64 (d:Int)]
abbrev sB (ds:List Nat):aD:=.slice 1 (rB ds)
abbrev bT (n:Nat):aD:=sB (bd n)
abbrev zC (z:Int):List aD:=[.int .i64 z.sign,bT z.natAbs]
abbrev zT (z:Int):aJ:=.agg (zC z)
theorem ab1:DB 32768 []:=fun d hd=>by cases hd
theorem bm8 {n:Nat} (h:n=0):aD.Sub (.exact (.slice none 0 0)) (bT n):=by
 subst h;rw [bT,QE];exact aD.Sub.nil
theorem sliceB {ds:List Nat} {x:Operand} {ty:Nat} {y:Operand} {k:IntKind} {n:Int} {m:Nat} (hm:n.toNat=m) (h0:0<=n:=by omega) (hn:m<=ds.length:=by omega):bF prog (.slice 47 x (some y) none none) ty [.one (sB ds), .one (.int k n)] (.one (sB (ds.drop m))):=by
 have:=Oc (P:=prog) (T:=47) (x:=x) (y:=y) (ty:=ty) (k:=k) (n:=n) (ts:=rB ds) eX h0 (by rw [aK,hm];exact hn);rw [hm,rB,<-List.map_drop] at this;exact this
theorem aH8 {ds:List Nat} {x:Operand} {ty:Nat} {y:Operand} {k:IntKind} {n:Int} {m:Nat} (h0:0<=n:=by omega) (hm:n.toNat=m:=by omega) (hn:m<=ds.length:=by omega):bF prog (.slice 47 x none (some y) none) ty [.one (sB ds), .one (.int k n)] (.one (sB (ds.take m))):=by
 have:=zV (P:=prog) (T:=47) (x:=x) (y:=y) (ty:=ty) (k:=k) (n:=n) (ts:=rB ds) eX h0 (by rw [aK,hm];exact hn);rw [hm,rB,<-List.map_take] at this;exact this
theorem rL (ds:List Nat) (hd:DB 32768 ds) (hs:ds.length<4611686018427387904:=by omega):aQ prog 229 [(.one (sB ds):aJ)] (.ret [.one (bT (bv ds))]):=by
 refine eH func229 aj1 ?_;refine bZ {xs:List Nat // DB 32768 xs/\bv xs=bv ds/\xs.length<=ds.length} (fun g=>[.one (sB g.1)]) (fun g=>g.1.length) ⟨ds,hd,rfl,aY _⟩ aX.rfl (fun _=>rfl) ?_;rintro ⟨xs,hx,hv,hl⟩;dsimp only [aE,aF] at hx hv hl ⊢;apply vn (aM eX (aK _)) rfl;apply vn gH rfl;refine vs _ rfl ?_ ?_<;>intro h3
 .obtain ⟨d,hget⟩:∃ d,xs[0]? = some d:=⟨_,cC (by omega)⟩
  apply vn (aH eX (by omega) (by omega) hget) rfl;apply vn (cH Zz) rfl;dsimp only [aE,aF];apply vn dP rfl;refine vs _ rfl ?_ ?_<;>intro h7
  .apply vn (sliceB rfl) rfl
   exact bD rfl ⟨⟨xs.drop 1,hx.drop 1,by
    have h7:d=0:=by omega
    rw [<-hv,Yx hget,h7,Nat.mul_zero,Nat.add_zero],by show (xs.drop 1).length<=_;rw [List.length_drop];omega⟩,aX.rfl,by show (xs.drop 1).length<xs.length;rw [List.length_drop];omega⟩
  have e:bd (bv ds)=xs:=by
   rw [<-hv];refine bt1 hx fun d' h'=>?_;rw [List.head?_eq_getElem?,hget] at h';simp only [aN] at h';subst h';omega
  rw [bT,e];exact aL rfl
 have e:bd (bv ds)=xs:=by
  have:xs = []:=List.eq_nil_of_length_eq_zero (by omega);rw [<-hv,this];exact QE
 rw [bT,e];exact aL rfl
theorem fR (s z:Int) (ds:List Nat) (hd:DB 32768 ds) (h1:z.natAbs=bv ds) (h2:bv ds≠0->z.sign=s) (hs:ds.length<4611686018427387904:=by omega):aQ prog 189 [(.one (.int .i64 s):aJ),(.one (sB ds):aJ)] (.ret [zT z]):=by
 refine eH func189 aC1 ?_;have hlen:(bd (bv ds)).length=0↔bv ds=0:=by rw [List.length_eq_zero_iff,Pz]
 have hl2:(bd (bv ds)).length<=ds.length:=kM (Ul hd);apply aA (rL ds hd hs) rfl;apply vn (aM eX (aK _)) rfl;apply vn dP rfl;refine vs _ rfl ?_ ?_<;>intro h3
 .have hz:z=0:=by
   have:=hlen.1 (by omega);omega
  subst hz;exact jL ⟨⟨aD.Sub.same,bm8 rfl,trivial⟩,trivial⟩
 refine aL ?_;rw [<-h2 (fun h=>h3 (by have:=hlen.2 h;omega)),<-h1];rfl
theorem Rk {ds:List Nat} {m n:Nat} (hm:m≠0) (h:bv ds+32768^ds.length*m=n) (hn:n<18446744073709551616:=by omega):ds.length<=4:=by
 rcases Nat.lt_or_ge ds.length 5 with h1 | h1
 .omega
 .have h2:32768^5<=32768^ds.length:=Nat.pow_le_pow_right (by omega) h1;have h3:32768^ds.length<=32768^ds.length*m:=Nat.le_mul_of_pos_right _ (by omega);omega
theorem Ah {ds:List Nat} {m n:Nat} (h:bv ds+32768^ds.length*m=n):bv (m%32768::ds)+32768^(m%32768::ds).length*(m/32768)=n:=by
 rw [BL,List.length_cons,Nat.pow_succ,Nat.add_assoc,Nat.mul_assoc,<-Nat.mul_add,Nat.mod_add_div];exact h
theorem neg_tmod {m:Nat}:(-(m:Int)).tmod 32768 = -((m%32768:Nat):Int):=by rw [Int.neg_tmod,Int.tmod_eq_emod_of_nonneg (by omega)];omega
theorem neg_tdiv {m:Nat}:(-(m:Int)).tdiv 32768 = -((m/32768:Nat):Int):=by rw [Int.neg_tdiv,Int.tdiv_eq_ediv_of_nonneg (by omega)];omega
theorem tC (n:Int) (h1:-9223372036854775808<=n:=by omega) (h2:n<9223372036854775808:=by omega):aQ prog 114 [(.one (.int .i64 n):aJ)] (.ret [zT n]):=by
 refine eH func114 az9 ?_;apply vn bQ rfl;refine vs _ rfl (fun h1=>?_) (fun h1'=>?_)
 .refine bZ {g:Nat×List Nat // bv g.2+32768^g.2.length*g.1=n.natAbs/\DB 32768 g.2/\g.1<=9223372036854775808/\g.2.length<=5} (fun g=>[.one (.int .i64 (-(g.1.1:Int))), .rows (rB g.1.2)]) (fun g=>g.1.1) ⟨(n.natAbs,[]),by simp [bv,val],ab1,by show n.natAbs<=_;omega,by simp⟩ ⟨aJ.Sub.of_eq (congrArg (fun q=>aJ.one (aD.int .i64 q)) (by show n = -((n.natAbs:Nat):Int);omega)),aJ.Sub.same,trivial⟩ (fun _=>rfl) ?_;rintro ⟨⟨m,ds⟩,hv,hd,hm,hl⟩;dsimp only [aE,aF] at hv hd hm hl ⊢;apply vn fG rfl;refine vs _ rfl ?_ ?_<;>intro h4
  .have hm0:m≠0:=by omega
   have hl4:=Rk hm0 hv
   have hd2:DB 32768 (m%32768::ds):=fun d hd'=>by
    rcases List.mem_cons.1 hd' with rfl | hd'
    .omega
    .exact hd d hd'
   apply vn (Ez (c:=-((m%32768:Nat):Int)) (by decide) neg_tmod) rfl;apply vn bQ rfl;refine vs _ rfl ?_ ?_<;>intro h7
   .apply vn (NA) rfl;dsimp only [aE,aF];refine eK (us:=rB [m%32768]) (by show [[aD.int .i64 _]] = [[aD.int .i64 _]];congr 3;omega) ?_;refine BC (ts:=rB [m%32768]) (us:=rB ds) (vs:=rB (m%32768::ds)) rfl rfl rfl (by simp;omega) (by simp [maxLen];omega) ?_;apply vn (oX (c:=-((m/32768:Nat):Int)) (by decide) (by rw [neg_tdiv];exact fI)) rfl;dsimp only [aE,aF];exact bD rfl ⟨⟨(m/32768,m%32768::ds),Ah hv,hd2,by show m/32768<=_;omega,by show ds.length+1<=5;omega⟩,aX.rfl,by show m/32768<m;omega⟩
   refine eK (us:=rB [m%32768]) (by show [[aD.int .i64 _]] = [[aD.int .i64 _]];congr 3;omega) ?_;refine BC (ts:=rB [m%32768]) (us:=rB ds) (vs:=rB (m%32768::ds)) rfl rfl rfl (by simp;omega) (by simp [maxLen];omega) ?_;apply vn (oX (c:=-((m/32768:Nat):Int)) (by decide) (by rw [neg_tdiv];exact fI)) rfl;dsimp only [aE,aF];exact bD rfl ⟨⟨(m/32768,m%32768::ds),Ah hv,hd2,by show m/32768<=_;omega,by show ds.length+1<=5;omega⟩,aX.rfl,by show m/32768<m;omega⟩
  have hm0:m=0:=by omega
  subst hm0;rw [Nat.mul_zero,Nat.add_zero] at hv;apply aA (fR (-1) n ds hd hv.symm (fun _=>Int.sign_eq_neg_one_of_neg h1)) rfl;exact aL rfl
 refine bZ {g:Nat×List Nat // bv g.2+32768^g.2.length*g.1=n.natAbs/\DB 32768 g.2/\g.1<=9223372036854775808/\g.2.length<=5/\g.1<9223372036854775808} (fun g=>[.one (.int .i64 (g.1.1:Int)), .rows (rB g.1.2)]) (fun g=>g.1.1) ⟨(n.natAbs,[]),by simp [bv,val],ab1,by show n.natAbs<=_;omega,by simp,by show n.natAbs<_;omega⟩ ⟨aJ.Sub.of_eq (congrArg (fun q=>aJ.one (aD.int .i64 q)) (by show n=((n.natAbs:Nat):Int);omega)),aJ.Sub.same,trivial⟩ (fun _=>rfl) ?_;rintro ⟨⟨m,ds⟩,hv,hd,hm,hl,hmm⟩;dsimp only [aE,aF] at hv hd hm hl hmm ⊢;apply vn fG rfl;refine vs _ rfl ?_ ?_<;>intro h21
 .have hm0:m≠0:=by omega
  have hl4:=Rk hm0 hv
  have hd2:DB 32768 (m%32768::ds):=fun d hd'=>by
   rcases List.mem_cons.1 hd' with rfl | hd'
   .omega
   .exact hd d hd'
  apply vn (qB) rfl;apply vn bQ rfl;refine vs _ rfl ?_ ?_<;>intro h24
  .exfalso;omega
  refine eK (us:=rB [m%32768]) (by show [[aD.int .i64 _]] = [[aD.int .i64 _]];congr 3) ?_;dsimp only [aE,aF];refine BC (ts:=rB [m%32768]) (us:=rB ds) (vs:=rB (m%32768::ds)) rfl rfl rfl (by simp;omega) (by simp [maxLen];omega) ?_;apply vn (NG) rfl;dsimp only [aE,aF];exact bD rfl ⟨⟨(m/32768,m%32768::ds),Ah hv,hd2,by show m/32768<=_;omega,by show ds.length+1<=5;omega,by show m/32768<_;omega⟩,aX.rfl,by show m/32768<m;omega⟩
 have hm0:m=0:=by omega
 subst hm0;rw [Nat.mul_zero,Nat.add_zero] at hv;apply aA (fR 1 n ds hd hv.symm (fun h=>Int.sign_eq_one_of_pos (by omega))) rfl;exact aL rfl
theorem RL {xs ys:List Nat} (hx:DB 32768 xs) {i x y:Nat} (hl:xs.length=ys.length) (hi:xs[i]? = some x) (hj:ys[i]? = some y) (ht:xs.take i=ys.take i) (hxy:x<y:=by omega):bv xs<bv ys:=by
 have e:∀ (zs:List Nat) (z:Nat),zs[i]? = some z->bv zs=bv (zs.take i)*32768^(zs.length-i)+(bv (zs.drop (i+1))+32768^(zs.length-(i+1))*z):=fun zs z hz=>by
  have hlt:i<zs.length:=(dR.1 hz).1
  conv=>lhs;rw [<-List.take_append_drop i zs]
  rw [Zu,List.length_drop]
  congr 1
  rw [List.drop_eq_getElem_cons hlt,(dR.1 hz).2,BL,List.length_drop]
 rw [e xs x hi,e ys y hj,ht,hl];have h1:=Ul (hx.drop (i+1));rw [List.length_drop,hl] at h1;have h2:32768^(ys.length-(i+1))*(x+1)<=32768^(ys.length-(i+1))*y:=Nat.mul_le_mul_left _ hxy;rw [Nat.mul_add,Nat.mul_one] at h2;omega
theorem uU {a b:Nat} (h:(bd a).length<(bd b).length:=by omega):a<b:=by
 rcases Nat.lt_or_ge a b with h1 | h1
 .exact h1
 .have:=fO h1;omega
theorem oU (a b:Nat) (hs:(bd a).length+(bd b).length<1099511627776:=by omega):aQ prog 227 [(.one (bT a):aJ),(.one (bT b):aJ)] (.ret [.one (.int .i64 (eT a b))]):=by
 refine eH func227 aj3 ?_;apply vn (aM eX (aK _)) rfl;apply vn (aM eX (aK _)) rfl;apply vn fG rfl;refine vs _ rfl ?_ ?_<;>intro h3
 .apply vn (aM eX (aK _)) rfl;dsimp only [aE,aF];apply vn (aM eX (aK _)) rfl;apply vn bQ rfl;refine vs _ rfl ?_ ?_<;>intro h7
  .rw [sX (by have:=uU (a:=a) (b:=b);omega)];exact aL rfl
  rw [tI (by have:=uU (a:=b) (b:=a);omega)];exact aL rfl
 have hlen:(bd a).length=(bd b).length:=by omega
 refine bZ {i:Nat // i<=(bd a).length/\(bd a).take i=(bd b).take i} (fun g=>[.one (.int .i64 0), .one (.int .i64 g.1)]) (fun g=>(bd a).length-g.1) ⟨0,dD _,rfl⟩ aX.rfl (fun _=>rfl) ?_;rintro ⟨i,hi,ht⟩;dsimp only [aE,aF] at hi ht ⊢;apply vn (aM eX (aK _)) rfl;apply vn bQ rfl;refine vs _ rfl ?_ ?_<;>intro h13
 .obtain ⟨x,hx⟩:∃ x,(bd a)[i]? = some x:=⟨_,cC (by omega)⟩
  obtain ⟨y,hy⟩:∃ y,(bd b)[i]? = some y:=⟨_,cC (by omega)⟩
  apply vn (aH eX (by omega) (by omega) hx) rfl;apply vn (cH Zz) rfl;dsimp only [aE,aF];apply vn (aH eX (by omega) (by omega) hy) rfl;apply vn (cH Zz) rfl;apply vn bQ rfl;refine vs _ rfl ?_ ?_<;>intro h19
  .have:=RL (iK a) hlen hx hy ht;rw [fJ,fJ] at this;rw [sX (by omega)];exact aL rfl
  apply vn (aH eX (by omega) (by omega) hx) rfl;dsimp only [aE,aF];apply vn (cH Zz) rfl;apply vn (aH eX (by omega) (by omega) hy) rfl;apply vn (cH Zz) rfl;apply vn gH rfl;dsimp only [aE,aF];refine vs _ rfl ?_ ?_<;>intro h26
  .have:=RL (iK b) hlen.symm hy hx ht.symm;rw [fJ,fJ] at this;rw [tI (by omega)];exact aL rfl
  apply vn (aB (by omega) (by omega)) rfl;dsimp only [aE,aF];exact bD rfl ⟨⟨i+1,by omega,by rw [take_succ hx,take_succ hy,ht,show x=y by omega]⟩,aX.rfl,by show (bd a).length-(i+1)<(bd a).length-i;omega⟩
 have hie:i=(bd a).length:=by omega
 subst hie
 have e:bd a=bd b:=by
  rw [List.take_length,List.take_of_length_le (by omega)] at ht;exact ht
 have:a=b:=by rw [<-fJ a,e,fJ]
 rw [this,BU];exact aL rfl
theorem CF (n i:Nat) (hs:(bd n).length<1099511627776:=by omega) (hi:i<4611686018427387904:=by omega):aQ prog 248 [(.one (bT n):aJ),(.one (.int .i64 i):aJ)] (.ret [.one (.int .i64 ((n/32768^i%32768:Nat):Int))]):=by
 refine eH func248 al0 ?_;have hdg:=Ru n i;apply vn (aM eX (aK _)) rfl;apply vn gJ rfl;refine vs _ rfl ?_ ?_<;>intro h2
 .rw [List.getElem?_eq_none_iff.2 (by rw [List.length_reverse];omega)] at hdg;rw [<-hdg];exact aL rfl
 apply vn (aM eX (aK _)) rfl;apply vn (aG (by omega) (by omega)) rfl;dsimp only [aE,aF];apply vn (aG (by omega) (by omega)) rfl;dsimp only [aE,aF];obtain ⟨d,hd⟩:∃ d,(bd n).reverse[i]? = some d:=⟨_,cC (by rw [List.length_reverse];omega)⟩
 have hd2:(bd n)[(bd n).length-1-i]? = some d:=by rw [BQ];exact hd
 rw [hd] at hdg;apply vn (aH eX (by omega) (by omega) hd2) rfl;apply vn (cH Zz) rfl;dsimp only [aE,aF];rw [<-hdg];exact aL rfl
theorem Vm (a b:Nat):aQ prog 247 [(.one (bT a):aJ),(.one (bT b):aJ)] (.ret [.one (.int .i64 ((max (bd a).length (bd b).length:Nat):Int))]):=by
 refine eH func247 UX ?_;apply vn (aM eX (aK _)) rfl;apply vn (aM eX (aK _)) rfl;apply vn gH rfl;refine vs _ rfl ?_ ?_<;>intro h3
 .apply vn (aM eX (aK _)) rfl;dsimp only [aE,aF];refine aL ?_;show [aJ.one (aD.int .i64 _)] = [aJ.one (aD.int .i64 _)]
  congr 3;omega
 apply vn (aM eX (aK _)) rfl;dsimp only [aE,aF];refine aL ?_;show [aJ.one (aD.int .i64 _)] = [aJ.one (aD.int .i64 _)]
 congr 3;omega
theorem val_rev (n:Nat):val 32768 (bd n).reverse=n:=fJ n
theorem Sh (n i:Nat):(bd n).reverse[i]?.getD 0=n/32768^i%32768:=Ru n i
set_option maxHeartbeats 1000000 in
theorem kN (a b r:Nat) (k:Int) (hk:k=1\/k = -1) (qH:(bd b).length<274877906944:=by omega) (hr:(r:Int)=a+k*b:=by omega) (hs:(bd a).length<274877906944:=by omega):aQ prog 226 [(.one (bT a):aJ),(.one (bT b):aJ),(.one (.int .i64 k):aJ)] (.ret [.one (bT r)]):=by
 refine eH func226 aA5 ?_;obtain ⟨n,hn⟩:∃ n,max (bd a).length (bd b).length+1=n:=⟨_,rfl⟩
 have hrl:r<32768^n:=by
  have h1:=DJ a;have h2:=DJ b;have h3:32768^(bd a).length<=32768^(n-1):=Nat.pow_le_pow_right (by omega) (by omega);have h4:32768^(bd b).length<=32768^(n-1):=Nat.pow_le_pow_right (by omega) (by omega);have h5:32768^n=32768^(n-1)*32768:=by rw [<-Nat.pow_succ];congr 1;omega
  rcases hk with rfl | rfl<;>omega
 apply aA (Vm a b) rfl;apply vn (aB (by omega) (by omega)) rfl;dsimp only [aE,aF];refine Cq (n:=n) (f:=fun d:Nat=>[aD.int .i64 (d:Int)]) 0 rfl rfl (by omega) rfl (by omega) (by simp only [maxLen];omega) ?_;refine bZ {g:Nat×Int×List Nat // Ic 32768 (bd a).reverse (bd b).reverse n k g.1 g.2.1 g.2.2} (fun g=>[.one (.int .i64 g.1.2.1), .one (.int .i64 g.1.1), .rows (rB g.1.2.2.reverse)]) (fun g=>n-g.1.1) ⟨(0,0,List.replicate n 0),Ic.init (by omega) _ _ _ _⟩ ⟨aJ.Sub.same,aJ.Sub.same,aJ.Sub.of_eq (by rw [List.reverse_replicate];rfl),trivial⟩ (fun _=>rfl) ?_;rintro ⟨⟨i,c,os⟩,hI⟩;dsimp only [aE,aF] at hI ⊢;have hil:=hI.le;have hol:=hI.len;have hc0:=hI.c0;have hc1:=hI.c1;apply vn bQ rfl;refine vs _ rfl ?_ ?_<;>intro h5
 .obtain ⟨x,hx⟩:∃ x,a/32768^i%32768=x:=⟨_,rfl⟩
  obtain ⟨y,hy⟩:∃ y,b/32768^i%32768=y:=⟨_,rfl⟩
  have hxB:x<32768:=by rw [<-hx];exact Nat.mod_lt _ (by omega)
  have hyB:y<32768:=by rw [<-hy];exact Nat.mod_lt _ (by omega)
  have hcall1:=CF a i;have hcall2:=CF b i;rw [hx] at hcall1;rw [hy] at hcall2
  have hnext:∀ (z:Nat) (c':Int),z<32768 -> -1<=c'->c'<=1->(z:Int)+32768*c'=x+k*y+c->Ic 32768 (bd a).reverse (bd b).reverse n k (i+1) c' (os.set i z):=fun z c' h1 h2 h3 h4=>
   hI.next (by omega) (by rw [Sh,hx]) (by rw [Sh,hy]) h2 h3 h1 h4
  have hst:∀ z,os.reverse.set (n-1-i) z=(os.set i z).reverse:=fun z=>by rw [<-hol];exact QL (by omega)
  obtain ⟨o0,hgo⟩:∃ o0,os.reverse[n-1-i]? = some o0:=⟨_,cC (by rw [List.length_reverse];omega)⟩
  have hky:k*y=y\/k*y = -(y:Int):=by rcases hk with rfl | rfl<;>simp
  generalize hkyv:k*(y:Int)=ky at hnext hky;apply aA hcall1 rfl;apply aA hcall2 rfl;apply vn (wQ (c:=ky) (by rw [hkyv];exact fI)) rfl;dsimp only [aE,aF];apply vn (aB (by omega) (by omega)) rfl;apply vn (aB (by omega) (by omega)) rfl;apply vn bQ rfl;refine vs _ rfl ?_ ?_<;>intro h12
  .apply vn (aB (by omega) (by omega)) rfl;dsimp only [aE,aF];apply vn gJ rfl;refine vs _ rfl ?_ ?_<;>intro h15
   .exfalso;omega
   apply vn (aG (by omega) (by omega)) rfl;apply vn (aG (by omega) (by omega)) rfl;refine cJ rfl rfl (by omega) (by rw [List.length_reverse];omega) ?_;refine gP (d':=(x+ky+c+32768).toNat) rfl rfl (by omega) (by omega) hgo (by show [aD.int .i64 _] = [aD.int .i64 _];congr 2;omega) ?_;rw [hst];dsimp only [aE,aF];apply vn (aB (by omega) (by omega)) rfl;dsimp only [aE,aF];exact bD rfl ⟨⟨(i+1,-1,os.set i (x+ky+c+32768).toNat),hnext _ (-1) (by omega) (by omega) (by omega) (by omega)⟩,aX.rfl,by show n-(i+1)<n-i;omega⟩
  apply vn gJ rfl;refine vs _ rfl ?_ ?_<;>intro h30
  .apply vn (aG (by omega) (by omega)) rfl;apply vn (aG (by omega) (by omega)) rfl;apply vn (aG (by omega) (by omega)) rfl;dsimp only [aE,aF];refine cJ rfl rfl (by omega) (by rw [List.length_reverse];omega) ?_;refine gP (d':=(x+ky+c-32768).toNat) rfl rfl (by omega) (by omega) hgo (by show [aD.int .i64 _] = [aD.int .i64 _];congr 2;omega) ?_;rw [hst];apply vn (aB (by omega) (by omega)) rfl;dsimp only [aE,aF];exact bD rfl ⟨⟨(i+1,1,os.set i (x+ky+c-32768).toNat),hnext _ 1 (by omega) (by omega) (by omega) (by omega)⟩,aX.rfl,by show n-(i+1)<n-i;omega⟩
  apply vn (aG (by omega) (by omega)) rfl;apply vn (aG (by omega) (by omega)) rfl;refine cJ rfl rfl (by omega) (by rw [List.length_reverse];omega) ?_;refine gP (d':=(x+ky+c).toNat) rfl rfl (by omega) (by omega) hgo (by show [aD.int .i64 _] = [aD.int .i64 _];congr 2;omega) ?_;rw [hst];apply vn (aB (by omega) (by omega)) rfl;dsimp only [aE,aF];exact bD rfl ⟨⟨(i+1,0,os.set i (x+ky+c).toNat),hnext _ 0 (by omega) (by omega) (by omega) (by omega)⟩,aX.rfl,by show n-(i+1)<n-i;omega⟩
 have hie:i=n:=by omega
 subst hie;have hf:=hI.fin (by omega) (by rw [List.length_reverse];omega) (by rw [List.length_reverse];omega) (r:=r) (by rw [val_rev,val_rev];exact hr) hrl;apply aA (rL os.reverse hI.dg.rev (by rw [List.length_reverse];omega)) rfl;dsimp only [aE,aF];refine aL ?_;rw [<-hf,bv,List.reverse_reverse];rfl
open Go Go.Proofs Tryz Ord
theorem BV (z:Int):-1<=z.sign/\z.sign<=1:=by rcases dH z with ⟨_,e⟩ | ⟨_,e⟩ | ⟨_,e⟩<;>omega
theorem QU (z:Int):aQ prog 217 [(zT z:aJ)] (.ret [zT (-z)]):=by
 refine eH func217 aC6 ?_;have:=BV z;apply vn (NA) rfl;dsimp only [aE,aF];refine aL ?_;show [aJ.agg [.int .i64 (-z.sign),bT z.natAbs]] = [zT (-z)];rw [zT,zC,Int.sign_neg,Int.natAbs_neg]
theorem ba3 {a b:Nat}:(bd (a+b)).length<=max (bd a).length (bd b).length+1:=by
 apply kM;have h1:=DJ a;have h2:=DJ b;have h3:32768^(bd a).length<=32768^(max (bd a).length (bd b).length):=Nat.pow_le_pow_right (by omega) (by omega);have h4:32768^(bd b).length<=32768^(max (bd a).length (bd b).length):=Nat.pow_le_pow_right (by omega) (by omega);rw [Nat.pow_succ];omega
theorem at3 (x y:Int) (hx:(bd x.natAbs).length<137438953472) (hy:(bd y.natAbs).length<137438953472):aQ prog 187 [(zT x:aJ),(zT y:aJ)] (.ret [zT (x+y)]):=by
 refine eH func187 au4 ?_;have hx0:=dH x;have hy0:=dH y
 have hl:∀ n,n<=x.natAbs+y.natAbs->(bd n).length<274877906944:=fun n hn=>by
  have h1:=fO hn;have h2:=ba3 (a:=x.natAbs) (b:=y.natAbs);omega
 apply vn dP rfl;refine vs _ rfl ?_ ?_<;>intro h1
 .rw [show x=0 by omega,Int.zero_add];exact aL rfl
 apply vn dP rfl;refine vs _ rfl ?_ ?_<;>intro h4
 .rw [show y=0 by omega,Int.add_zero];exact aL rfl
 apply vn dP rfl;refine vs _ rfl ?_ ?_<;>intro h7
 .apply aA (kN x.natAbs y.natAbs (x.natAbs+y.natAbs) 1 (.inl rfl)) rfl;dsimp only [aE,aF]
  apply aA (fR x.sign (x+y) _ (iK _) (by rw [fJ];omega) (fun _=>by
   rcases hx0 with ⟨h,e⟩ | ⟨h,e⟩ | ⟨h,e⟩
   .rw [e];exact Int.sign_eq_neg_one_of_neg (by omega)
   .omega
   .rw [e];exact Int.sign_eq_one_of_pos (by omega)) (by have:=hl _ (aY _);omega)) rfl
  exact aL rfl
 apply aA (oU x.natAbs y.natAbs) rfl;apply vn gJ rfl;dsimp only [aE,aF]
 have hci:(0<=eT (x.natAbs:Int) (y.natAbs:Int))↔y.natAbs<=x.natAbs:=by
  have:=qY (a:=(x.natAbs:Int)) (b:=(y.natAbs:Int));omega
 refine vs _ rfl ?_ ?_<;>intro h13
 .apply aA (kN x.natAbs y.natAbs (x.natAbs-y.natAbs) (-1) (.inr rfl)) rfl
  apply aA (fR x.sign (x+y) _ (iK _) (by rw [fJ];omega) (fun hne=>by
   rw [fJ] at hne;rcases hx0 with ⟨h,e⟩ | ⟨h,e⟩ | ⟨h,e⟩
   .rw [e];exact Int.sign_eq_neg_one_of_neg (by omega)
   .omega
   .rw [e];exact Int.sign_eq_one_of_pos (by omega)) (by have:=hl (x.natAbs-y.natAbs) (by omega);omega)) rfl
  exact aL rfl
 apply aA (kN y.natAbs x.natAbs (y.natAbs-x.natAbs) (-1) (.inr rfl)) rfl
 apply aA (fR y.sign (x+y) _ (iK _) (by rw [fJ];omega) (fun hne=>by
  rw [fJ] at hne;rcases hy0 with ⟨h,e⟩ | ⟨h,e⟩ | ⟨h,e⟩
  .rw [e];exact Int.sign_eq_neg_one_of_neg (by omega)
  .omega
  .rw [e];exact Int.sign_eq_one_of_pos (by omega)) (by have:=hl (y.natAbs-x.natAbs) (by omega);omega)) rfl
 exact aL rfl
theorem aD0 (x y:Int) (hx:(bd x.natAbs).length<137438953472) (hy:(bd y.natAbs).length<137438953472):aQ prog 191 [(zT x:aJ),(zT y:aJ)] (.ret [zT (x-y)]):=by
 refine eH func191 aB2 ?_;apply aA (QU y) rfl;apply aA (at3 x (-y) hx (by rw [Int.natAbs_neg];exact hy)) rfl;rw [<-Int.sub_eq_add_neg];exact aL rfl
theorem ar7 (x y:Int):(x-y).sign=eT x y:=by
 unfold eT;rcases dH (x-y) with ⟨h,e⟩ | ⟨h,e⟩ | ⟨h,e⟩<;>rw [e]
 .rw [if_pos (by omega)]
 .rw [if_neg (by omega),if_neg (by omega)]
 .rw [if_neg (by omega),if_pos (by omega)]
theorem at4 (x y:Int) (hx:(bd x.natAbs).length<137438953472) (hy:(bd y.natAbs).length<137438953472):aQ prog 118 [(zT x:aJ),(zT y:aJ)] (.ret [.one (.int .i64 (eT x y))]):=by
 refine eH func118 aG5 ?_;apply aA (aD0 x y hx hy) rfl;dsimp only [aE,aF];rw [<-ar7];exact aL rfl
theorem XJ {n la i:Nat} (h:la=(bd n).length) (hi:i<la:=by omega):∃ d,(bd n)[la-1-i]? = some d/\(bd n).reverse[i]? = some d/\d<32768:=by
 subst h;have hd:(bd n).reverse[i]? = some ((bd n).reverse[i]'(by rw [List.length_reverse];exact hi)):=cC _;exact ⟨_,by rw [BQ hi];exact hd,hd,(iK n).rev.get hd⟩
set_option maxHeartbeats 2000000 in
theorem tB (x y:Int) (hs:(bd x.natAbs).length+(bd y.natAbs).length<274877906944:=by omega):aQ prog 119 [(zT x:aJ),(zT y:aJ)] (.ret [zT (x*y)]):=by
 refine eH func119 ay1 ?_;obtain ⟨la,hla⟩:∃ n,(bd x.natAbs).length=n:=⟨_,rfl⟩
 obtain ⟨lb,hlb⟩:∃ n,(bd y.natAbs).length=n:=⟨_,rfl⟩
 have hra:(bd x.natAbs).reverse.length=la:=by rw [List.length_reverse,hla]
 have hrb:(bd y.natAbs).reverse.length=lb:=by rw [List.length_reverse,hlb]
 have hsx:=BV x;have hsy:=BV y;apply vn (aM eX (aK _)) rfl;apply vn (aM eX (aK _)) rfl;apply vn (aB (by omega) (by omega)) rfl;dsimp only [aE,aF];rw [hla,hlb];refine Cq (n:=la+lb) (f:=fun d:Nat=>[aD.int .i64 (d:Int)]) 0 rfl rfl (by omega) rfl (by omega) (by simp only [maxLen];omega) ?_;apply vn (aM eX (aK _)) rfl;apply vn (aG (by omega) (by omega)) rfl;dsimp only [aE,aF];rw [hla];refine bZ {g:Nat×List Nat // Jk 32768 (bd x.natAbs).reverse (bd y.natAbs).reverse g.1 g.2} (fun g=>[.one (.int .i64 ((la:Int)-1-g.1.1)), .rows (rB g.1.2.reverse)]) (fun g=>la-g.1.1) ⟨(0,List.replicate (la+lb) 0),by have:=Jk.init (B:=32768) (by omega) (bd x.natAbs).reverse (bd y.natAbs).reverse;rw [hra,hrb] at this;exact this⟩ ⟨aJ.Sub.of_eq (congrArg (fun q=>aJ.one (aD.int .i64 q)) (by show (la:Int)-1=(la:Int)-1-((0:Nat):Int);omega)),aJ.Sub.of_eq (by rw [List.reverse_replicate];rfl),trivial⟩ (fun _=>rfl) ?_;rintro ⟨⟨i,os⟩,hO⟩;dsimp only [aE,aF] at hO ⊢;have hil:=hO.le;rw [hra] at hil;apply vn gJ rfl;refine vs _ rfl ?_ ?_<;>intro h8
 .apply vn (aM eX (aK _)) rfl;obtain ⟨d,hd1,hd2,hd3⟩:=XJ (n:=x.natAbs) (la:=la) (i:=i) hla.symm;dsimp only [aE,aF];apply vn (aG (by omega) (by omega)) rfl;dsimp only [aE,aF];rw [hlb];refine bZ {g:Nat×Nat×List Nat // BIn 32768 (bd x.natAbs).reverse (bd y.natAbs).reverse i d (val 32768 ((bd x.natAbs).reverse.take i)*val 32768 (bd y.natAbs).reverse) g.1 g.2.1 g.2.2} (fun g=>[.one (.int .i64 g.1.2.1), .one (.int .i64 ((lb:Int)-1-g.1.1)), .rows (rB g.1.2.2.reverse)]) (fun g=>lb-g.1.1) ⟨(0,0,os),hO.inn (by omega)⟩ ⟨aJ.Sub.same,aJ.Sub.of_eq (congrArg (fun q=>aJ.one (aD.int .i64 q)) (by show (lb:Int)-1=(lb:Int)-1-((0:Nat):Int);omega)),aJ.Sub.same,trivial⟩ (fun _=>rfl) ?_;rintro ⟨⟨k,c,os2⟩,hI⟩;dsimp only [aE,aF] at hI ⊢;have hkl:=hI.le;have hol:=hI.len;have hc1:=hI.c1;rw [hrb] at hkl;rw [hra,hrb] at hol;apply vn gJ rfl;refine vs _ rfl ?_ ?_<;>intro h13
  .apply vn (aB (by omega) (by omega)) rfl;apply vn (aB (by omega) (by omega)) rfl;dsimp only [aE,aF];obtain ⟨e,he1,AO,Uq⟩:=XJ (n:=y.natAbs) (la:=lb) (i:=k) hlb.symm;obtain ⟨o,ho2⟩:∃ o,os2[i+k]? = some o:=⟨_,cC (by omega)⟩
   have ho1:os2.reverse[la+lb-1-(i+k)]? = some o:=by
    have:=BQ (ds:=os2.reverse) (i:=i+k) (by rw [List.length_reverse];omega);rw [List.reverse_reverse,List.length_reverse,hol] at this;rw [this];exact ho2
   have hoB:=hI.dg.get ho2;have hde:d*e<=32767*32767:=Nat.mul_le_mul (by omega) (by omega);have hst:∀ z,os2.reverse.set (la+lb-1-(i+k)) z=(os2.set (i+k) z).reverse:=fun z=>by rw [<-hol];exact QL (by omega)
   obtain ⟨w,hw⟩:∃ w,c+(d*e+o)=w:=⟨_,rfl⟩
   have hN:=hI.next (z:=w%32768) (c':=w/32768) (by rw [hrb];omega) AO ho2 (by omega) (by omega) (by omega);refine cJ rfl rfl (by omega) (by rw [List.length_reverse];omega) ?_;refine nQ rfl rfl (by omega) (by omega) ho1 rfl ?_;apply vn (aH eX (by omega) (by omega) hd1) rfl;apply vn (cH Zz) rfl;apply vn (aH eX (by omega) (by omega) he1) rfl;dsimp only [aE,aF];apply vn (cH Zz) rfl;apply vn (wQ (c:=((d*e:Nat):Int)) (by rw [<-Int.natCast_mul];exact fI)) rfl;apply vn (aB (by omega) (by omega)) rfl;dsimp only [aE,aF];apply vn (eV (c:=(w:Int)) (by rw [show (o:Int)+((d*e:Nat):Int)+(c:Int)=(w:Int) by omega];exact fI)) rfl;apply vn (aB (by omega) (by omega)) rfl;apply vn (aB (by omega) (by omega)) rfl;apply vn (qB) rfl;dsimp only [aE,aF];refine cJ rfl rfl (by omega) (by rw [List.length_reverse];omega) ?_;refine gP (d':=w%32768) rfl rfl (by omega) (by omega) ho1 rfl ?_;rw [hst];apply vn (NG) rfl;apply vn (aG (by omega) (by omega)) rfl;dsimp only [aE,aF];exact bD rfl ⟨⟨(k+1,w/32768,os2.set (i+k) (w%32768)),hN⟩,⟨aJ.Sub.same,aJ.Sub.of_eq (congrArg (fun q=>aJ.one (aD.int .i64 q)) (by show (lb:Int)-1-(k:Int)-1=(lb:Int)-1-((k+1:Nat):Int);omega)),aJ.Sub.same,trivial⟩,by show lb-(k+1)<lb-k;omega⟩
  have hke:k=lb:=by omega
  subst hke;obtain ⟨o,ho2⟩:∃ o,os2[i+k]? = some o:=⟨_,cC (by omega)⟩
  have ho1:os2.reverse[la+k-1-(i+k)]? = some o:=by
   have:=BQ (ds:=os2.reverse) (i:=i+k) (by rw [List.length_reverse];omega);rw [List.reverse_reverse,List.length_reverse,hol] at this;rw [this];exact ho2
  have hst:∀ z,os2.reverse.set (la+k-1-(i+k)) z=(os2.set (i+k) z).reverse:=fun z=>by rw [<-hol];exact QL (by omega)
  have hN:Jk 32768 (bd x.natAbs).reverse (bd y.natAbs).reverse (i+1) (os2.set (i+k) c):=by
   have:=hI;rw [<-hrb] at this ⊢;exact this.out hd2
  refine cJ rfl rfl (by omega) (by rw [List.length_reverse];omega) ?_;refine gP (d':=c) rfl rfl (by omega) (by omega) ho1 rfl ?_;rw [hst];apply vn (aG (by omega) (by omega)) rfl;dsimp only [aE,aF];exact bD rfl ⟨⟨(i+1,os2.set (i+k) c),hN⟩,⟨aJ.Sub.of_eq (congrArg (fun q=>aJ.one (aD.int .i64 q)) (by show (la:Int)-1-(i:Int)-1=(la:Int)-1-((i+1:Nat):Int);omega)),aJ.Sub.same,trivial⟩,by show la-(i+1)<la-i;omega⟩
 have hie:i=la:=by omega
 subst hie
 have hf:val 32768 os=x.natAbs*y.natAbs:=by
  have:=hO;rw [<-hra] at this;have:=this.fin;rw [val_rev,val_rev] at this;exact this
 have hol:=hO.len;rw [hra,hrb] at hol;have hmul:x.sign*y.sign=(x*y).sign:=(Int.sign_mul x y).symm;have hsb:=BV (x*y);apply vn (wQ (c:=(x*y).sign) (by rw [hmul];exact fI)) rfl;apply aA (fR (x*y).sign (x*y) os.reverse hO.dg.rev (by rw [bv,List.reverse_reverse,hf,Int.natAbs_mul]) (fun _=>rfl) (by rw [List.length_reverse];omega)) rfl;exact aL rfl
open Go Go.Proofs Tryz Ord
def aM1:Tr:=.back 0 [lV 10 0,lV 11 0]
def bs4:Tr:=.split (.u 5 0) (bI .mul 3 14 32768 3 0 3 (bI .sub 3 17 1 1 0 3 (cU .sub 3 18 19 7 0 4 0 3 (aZ 248 [(W 0 0),(W 8 0)] [none] [16,20] [47,3] 3 true (cU .add 3 15 21 6 0 9 0 3 (bI .add 3 12 1 4 0 3 aM1)))))) (.ret [(W 3 0)])
def bA6:Tr:=.loop 0 [lK 0,lK 0] (cU .lss 3 9 10 4 0 2 0 4 bs4)
theorem ar6:aV prog f260 (fun _=>none) [.v none, .v none, .v none]=bA6:=by kernel_rfl
def ba0:Tr:=.loop 0 [lV 14 0,lV 10 0] (aZ 227 [(W 15 0),(W 1 0)] [none] [46,47] [47,47] 3 true (bI .geq 3 48 0 17 0 4 (.split (.u 18 0) (.need (.call 226 [(W 15 0),(W 1 0),(WK (-1))] [none]) (.call ⟨.value (.func 226),#[(tT 50),(tT 51),(.const (I3 (-1)))],#[47,47,3]⟩) 47 true (bI .add 3 53 1 16 0 3 (.back 0 [lV 19 0,lV 20 0]))) (.ret [(W 16 0),(W 15 0)]))))
def aQ9:Tr:=.loop 0 [lV 0 0,lV 10 0] (aZ 227 [(W 12 0),(W 1 0)] [none] [46,47] [47,47] 3 true (bI .geq 3 48 0 14 0 4 (.split (.u 15 0) (.need (.call 226 [(W 12 0),(W 1 0),(WK (-1))] [none]) (.call ⟨.value (.func 226),#[(tT 50),(tT 51),(.const (I3 (-1)))],#[47,47,3]⟩) 47 true (bI .add 3 53 1 13 0 3 (.back 0 [lV 16 0,lV 17 0]))) (.ret [(W 13 0),(W 12 0)]))))
def ZM:Tr:=bI .gtr 3 36 0 10 0 4 (.split (.u 11 0) (aZ 114 [(W 10 0)] [(some 2)] [39] [2] 49 false (aZ 119 [(G2 12),(.agg [(tE (.int .i64 1)),(U 1 0)])] [(some 2)] [40,42] [49,49] 49 true (.need (.call 226 [(W 0 0),(W 13 1),(WK (-1))] [none]) (.call ⟨.value (.func 226),#[(tT 38),(tT 44),(.const (I3 (-1)))],#[47,47,3]⟩) 47 true ba0))) aQ9)
def br4:Tr:=bI .leq 3 14 3 2 0 4 (.split (.u 5 0) (bI .add 3 17 1 2 0 3 (bI .add 3 19 1 2 0 3 (aZ 260 [(W 0 0),(W 6 0),(W 7 0)] [none] [16,18,20] [47,3,3] 3 false (aZ 260 [(W 1 0),(W 2 0),(W 2 0)] [none] [22,23,24] [47,3,3] 3 true (cU .quo 3 21 25 8 0 9 0 3 ZM))))) (bI .add 3 28 1 2 0 3 (.need (.call 260 [(W 0 0),(W 6 0),(WK 4)] [none]) (.call ⟨.value (.func 260),#[(tT 27),(tT 29),(.const (I3 4))],#[47,3,3]⟩) 3 false (.need (.call 260 [(W 1 0),(W 2 0),(WK 3)] [none]) (.call ⟨.value (.func 260),#[(tT 31),(tT 32),(.const (I3 3))],#[47,3,3]⟩) 3 false (bI .add 3 33 1 8 0 3 (cU .quo 3 30 34 7 0 9 0 3 ZM))))))
def aS7:Tr:=.loop 0 [lV 8 0,lK 0] (aZ 227 [(W 9 0),(W 1 0)] [none] [46,47] [47,47] 3 true (bI .geq 3 48 0 11 0 4 (.split (.u 12 0) (.need (.call 226 [(W 9 0),(W 1 0),(WK (-1))] [none]) (.call ⟨.value (.func 226),#[(tT 50),(tT 51),(.const (I3 (-1)))],#[47,47,3]⟩) 47 true (bI .add 3 53 1 10 0 3 (.back 0 [lV 13 0,lV 14 0]))) (.ret [(W 10 0),(W 9 0)]))))
def bk7:Tr:=.split (.u 5 0) (aZ 114 [(WK 0)] [(some 2)] [39] [2] 49 false (aZ 119 [(G2 6),(.agg [(tE (.int .i64 1)),(U 1 0)])] [(some 2)] [40,42] [49,49] 49 true (.need (.call 226 [(W 0 0),(W 7 1),(WK (-1))] [none]) (.call ⟨.value (.func 226),#[(tT 38),(tT 44),(.const (I3 (-1)))],#[47,47,3]⟩) 47 true aS7))) (.loop 0 [lV 0 0,lK 0] (aZ 227 [(W 6 0),(W 1 0)] [none] [46,47] [47,47] 3 true (bI .geq 3 48 0 8 0 4 (.split (.u 9 0) (.need (.call 226 [(W 6 0),(W 1 0),(WK (-1))] [none]) (.call ⟨.value (.func 226),#[(tT 50),(tT 51),(.const (I3 (-1)))],#[47,47,3]⟩) 47 true (bI .add 3 53 1 7 0 3 aM1)) (.ret [(W 7 0),(W 6 0)])))))
def bz6:Tr:=dS 1 0 8 47 (dS 0 0 10 47 (cU .geq 3 11 12 3 0 2 0 4 (.split (.u 4 0) br4 (.need (.prim [(WK 0),(WK 0)] none) (.binOp .gtr 3 (tT 36) (.const (I3 0)) 3) 4 false bk7))))
theorem ac1:aV prog f241 (fun _=>none) [.v none, .v none]=bz6:=by kernel_rfl
def ba7:Tr:=.need (.app 1 8 (some 17) none (some 20)) (.call ⟨.builtin .append,#[(tT 33),(tT 38)],#[47,47]⟩) 47 false (aZ 229 [(.one (.c (.sr 1 21)))] [none] [39] [47] 47 true (aZ 241 [(W 22 0),(W 1 0)] [none,none] [42,43] [47,47] 271 false (.need (.lit 1 [[(.u 23 0)]]) (.buildSlice 47 1 #[(0,(tT 48))]) 47 false (.need (.app 1 8 (some 14) none (some 25)) (.call ⟨.builtin .append,#[(tT 47),(tT 49)],#[47,47]⟩) 47 false (bI .add 3 30 1 13 0 3 (.back 0 [lV 24 0,lV 27 0, .row 26]))))))
def bb2:Tr:=dS 0 0 27 47 (cU .lss 3 26 28 13 0 15 0 4 (.split (.u 16 0) (.need (.app 1 8 none (some (.u 12 0)) none) (.call ⟨.builtin .append,#[(.const (.slice none 0 0)),(tT 32)],#[47,47]⟩) 47 false (eW 0 0 13 0 47 34 35 (eI 18 0 none 3 36 (.need (.lit 1 [[(.u 19 0)]]) (.buildSlice 47 1 #[(0,(tT 37))]) 47 false ba7)))) (aZ 229 [(.one (.c (.sr 1 14)))] [none] [51] [47] 47 false (.ret [(W 17 0),(W 12 0)]))))
def bv6:Tr:=bI .sub 3 18 1 5 0 3 (.need (.prim [(W 0 0),(W 6 0)] none) (.slice 47 (tT 16) none (some (tT 19)) none) 47 false (.need (.app 1 8 none (some (.u 7 0)) none) (.call ⟨.builtin .append,#[(.const (.slice none 0 0)),(tT 20)],#[47,47]⟩) 47 false (aZ 229 [(.one (.c (.sr 1 8)))] [none] [21] [47] 47 true (dS 1 0 23 47 (bI .sub 3 24 1 10 0 3 (.loop 0 [lV 9 0,lV 11 0, .nilrow] bb2))))))
def bB8:Tr:=dS 0 0 10 47 (dS 1 0 12 47 (cU .lss 3 11 13 2 0 3 0 4 (.split (.u 4 0) (.ret [(.one (.c (.k (.slice none 0 0)))),(W 0 0)]) (dS 1 0 17 47 bv6))))
theorem aH3:aV prog f219 (fun _=>none) [.v none, .v none]=bB8:=by kernel_rfl
def bt9:Tr:=.split (.u 4 0) (bI .mul 3 11 32768 1 0 3 (eW 0 0 2 0 47 13 14 (eI 6 0 none 3 15 (cU .add 3 12 16 5 0 7 0 3 (bI .add 3 9 1 2 0 3 (.back 0 [lV 8 0,lV 9 0])))))) VX
def bD3:Tr:=.loop 0 [lK 0,lK 0] (dS 0 0 6 47 (cU .lss 3 5 7 2 0 3 0 4 bt9))
theorem ZB:aV prog f225 (fun _=>none) [.v none]=bD3:=by kernel_rfl
def aY6:Tr:=aZ 225 [(W 2 0)] [none] [26] [47] 3 false (aZ 225 [(W 3 0)] [none] [28] [47] 3 true (.loop 1 [lV 12 0,lV 13 0] (bI .neq 3 30 0 15 0 4 (.split (.u 16 0) (cU .rem 3 33 34 14 0 15 0 3 (.back 1 [lV 15 0,lV 17 0])) (aZ 114 [(W 14 0)] [(some 2)] [36] [2] 49 true (.ret [(G2 17)]))))))
def bw3:Tr:=bI .leq 3 19 4 8 0 4 (.split (.u 9 0) (dS 3 0 22 47 (bI .leq 3 23 4 10 0 4 (.split (.u 11 0) aY6 (aZ 219 [(W 2 0),(W 3 0)] [none,none] [39,40] [47,47] 247 false (.back 0 [lV 3 0,lV 13 0,lV 4 0,lV 5 0]))))) (aZ 219 [(W 2 0),(W 3 0)] [none,none] [39,40] [47,47] 247 false (.back 0 [lV 3 0,lV 11 0,lV 4 0,lV 5 0])))
def bz9:Tr:=.loop 0 [lV 0 1,lV 1 1,lK 0,lN] (dS 3 0 15 47 (bI .gtr 3 16 0 6 0 4 (.split (.u 7 0) (dS 2 0 18 47 bw3) (.need (.call 189 [(WK 1),(W 2 0)] [(some 2)]) (.call ⟨.value (.func 189),#[(.const (I3 1)),(tT 46)],#[3,47]⟩) 49 true VR))))
theorem ay8:aV prog f218 (fun _=>none) [.v (some 2), .v (some 2)]=bz9:=by kernel_rfl
theorem Uw {m long i:Nat} (h:i<long:=by omega):m/32768^(long-i)*32768+m/32768^(long-1-i)%32768=m/32768^(long-(i+1)):=by
 have e:m/32768^(long-i)=m/32768^(long-(i+1))/32768:=by
  rw [Nat.div_div_eq_div_mul,<-Nat.pow_succ];congr 2;omega
 rw [e,show long-1-i=long-(i+1) by omega];have:=Nat.div_add_mod (m/32768^(long-(i+1))) 32768;omega
theorem wM {m long i:Nat} (h:i<=long) (hm:m<32768^long):m/32768^(long-i)<32768^i:=by
 rw [Nat.div_lt_iff_lt_mul (Nat.pow_pos (by omega)),<-Nat.pow_add,show i+(long-i)=long by omega];exact hm
theorem Wc {i:Nat} (h:i<=4:=by omega):32768^i<=1152921504606846976:=by
 have:=Nat.pow_le_pow_right (n:=32768) (by omega) h;rw [show (32768:Nat)^4=1152921504606846976 by decide] at this;exact this
theorem xF (m long k:Nat) (hm:m<32768^long) (hk:k<=long:=by omega) (hk4:k<=4:=by omega) (hl:long<1099511627776:=by omega) (hs:(bd m).length<1099511627776:=by omega):aQ prog 260 [(.one (bT m):aJ),(.one (.int .i64 long):aJ),(.one (.int .i64 k):aJ)] (.ret [.one (.int .i64 ((m/32768^(long-k):Nat):Int))]):=by
 refine eH func260 ar6 ?_;refine bZ {i:Nat // i<=k} (fun g=>[.one (.int .i64 ((m/32768^(long-g.1):Nat):Int)), .one (.int .i64 g.1)]) (fun g=>k-g.1) ⟨0,dD _⟩ ⟨aJ.Sub.of_eq (congrArg (fun q:Nat=>aJ.one (aD.int .i64 (q:Int))) (by show 0=m/32768^long;rw [Nat.div_eq_of_lt hm])),aJ.Sub.same,trivial⟩ (fun _=>rfl) ?_;rintro ⟨i,hi⟩;dsimp only [aE,aF] at hi ⊢;apply vn bQ rfl;refine vs _ rfl ?_ ?_<;>intro h2
 .have hx:=wM (m:=m) (i:=i) (long:=long) (by omega) hm;have hp:=Wc (i:=i);have hstep:=Uw (m:=m) (long:=long) (i:=i);have hlt:=wM (m:=m) (i:=i+1) (long:=long) (by omega) hm;have hp2:=Wc (i:=i+1);generalize m/32768^(long-i)=x at *;generalize hy:m/32768^(long-(i+1))=y at *;apply vn (Af) rfl;apply vn (aG (by omega) (by omega)) rfl;dsimp only [aE,aF];apply vn (nY (c:=((long-1-i:Nat):Int)) (by rw [show ((long:Int)-1-(i:Int))=((long-1-i:Nat):Int) by omega];exact fI)) rfl;apply aA (CF m (long-1-i) hs) rfl;generalize m/32768^(long-1-i)%32768=d at *;dsimp only [aE,aF];apply vn (eV (c:=(y:Int)) (by rw [show (x:Int)*32768+(d:Int)=(y:Int) by omega];exact fI)) rfl;apply vn (aB (by omega) (by omega)) rfl;dsimp only [aE,aF];exact bD rfl ⟨⟨i+1,by omega⟩,⟨aJ.Sub.of_eq (congrArg (fun q:Nat=>aJ.one (aD.int .i64 (q:Int))) hy.symm),aJ.Sub.same,trivial⟩,by show k-(i+1)<k-i;omega⟩
 rw [show k=i by omega];exact aL rfl
theorem VA {d:Nat} (h:0<d):zT (d:Int) = .agg [.int .i64 1,bT d]:=by
 rw [zT,zC,Int.sign_eq_one_of_pos (by omega)];rfl
theorem al9 {r d m:Nat}:r/32768^m/(d/32768^m+1)*d<=r:=by
 have hp:0<32768^m:=Nat.pow_pos (by omega)
 have h1:d<=(d/32768^m+1)*32768^m:=by
  rw [Nat.mul_comm];exact Nat.le_of_lt (Nat.lt_mul_div_succ d hp)
 calc r/32768^m/(d/32768^m+1)*d<=r/32768^m/(d/32768^m+1)*((d/32768^m+1)*32768^m):=Nat.mul_le_mul_left _ h1
  _=r/32768^m/(d/32768^m+1)*(d/32768^m+1)*32768^m:=(Nat.mul_assoc _ _ _).symm
  _<=r/32768^m*32768^m:=Nat.mul_le_mul_right _ (Nat.div_mul_le_self _ _)
  _<=r:=Nat.div_mul_le_self _ _
set_option maxHeartbeats 2000000 in
theorem aq6 (r d:Nat) (hd:0<d) (hr:r<d*32768) (hs:(bd d).length<34359738368:=by omega):aQ prog 241 [(.one (bT r):aJ),(.one (bT d):aJ)] (.ret [.one (.int .i64 ((r/d:Nat):Int)), .one (bT (r%d))]):=by
 refine eH func241 ac1 ?_;have hdl:=DJ d
 have hrl:r<32768^((bd d).length+1):=by
  rw [Nat.pow_succ];exact Nat.lt_trans hr (Nat.mul_lt_mul_of_pos_right hdl (by omega))
 have hrs:=kM hrl;have hle:∀ q,q<=r->(bd q).length<=(bd d).length+1:=fun q hq=>Nat.le_trans (fO hq) hrs
 have hdn:0<(bd d).length:=by
  rcases Nat.eq_zero_or_pos (bd d).length with h | h
  .have:=Pz.1 (List.eq_nil_of_length_eq_zero h);omega
  .exact h
 have hqB:r/d<32768:=by rw [Nat.div_lt_iff_lt_mul hd,Nat.mul_comm];exact hr
 have hkd:∀ k,k*d<=r->k<32768:=fun k hk=>by
  have:k<=r/d:=by rw [Nat.le_div_iff_mul_le hd];exact hk
  omega
 have hfin:∀ r' k,r'+k*d=r->r'<d->k=r/d/\r'=r%d:=fun r' k h1 h2=>zR (by rw [<-h1,Nat.mul_comm]) h2
 have hah:∀ r':Nat,(0<=eT (r':Int) (d:Int))↔d<=r':=fun r'=>by
  have:=qY (a:=(r':Int)) (b:=(d:Int));omega
 apply vn (aM eX (aK _)) rfl;apply vn (aM eX (aK _)) rfl;apply vn gJ rfl;refine vs _ rfl ?_ ?_<;>intro h3
 .apply vn nX rfl;dsimp only [aE,aF];refine vs _ rfl ?_ ?_<;>intro h5
  .apply vn (aB (by omega) (by omega)) rfl;apply vn (aB (by omega) (by omega)) rfl;apply aA (xF r ((bd d).length+1) ((bd d).length+1) hrl (aY _)) rfl;rw [Nat.sub_self,Nat.pow_zero,Nat.div_one];apply aA (xF d (bd d).length (bd d).length hdl (aY _)) rfl;rw [Nat.sub_self,Nat.pow_zero,Nat.div_one];dsimp only [aE,aF];obtain ⟨k,hk⟩:∃ k,r/d=k:=⟨_,rfl⟩
   have hk1:k*d<=r:=by rw [<-hk];exact Nat.div_mul_le_self _ _
   have hk2:=hkd k hk1;apply vn (oX (c:=(k:Int)) (by omega) (by rw [Int.tdiv_eq_ediv_of_nonneg (oA _),<-Int.natCast_ediv,hk];exact fI)) rfl;apply vn gH rfl;refine vs _ rfl ?_ ?_<;>intro h12
   .have hm:=tB (k:Int) (d:Int) (by
     rw [Int.natAbs_natCast,Int.natAbs_natCast];have:(bd k).length<=1:=kM (by omega);omega)
    rw [VA hd,show (k:Int)*(d:Int)=((k*d:Nat):Int) by rw [Int.natCast_mul]] at hm;apply aA (tC k) rfl;apply aA hm rfl;dsimp only [aE,aF];apply aA (kN r (k*d) (r-k*d) (-1) (.inr rfl) (by have:=hle _ hk1;omega)) rfl;dsimp only [aE,aF];refine bZ {g:Nat×Nat // g.1+g.2*d=r} (fun g=>[.one (bT g.1.1), .one (.int .i64 g.1.2)]) (fun g=>g.1.1) ⟨(r-k*d,k),by show r-k*d+k*d=r;omega⟩ aX.rfl (fun _=>rfl) ?_;rintro ⟨⟨r',k'⟩,hg⟩;dsimp only [aE,aF] at hg ⊢;have hk3:=hkd k' (by omega);have hr3:=hle r' (by omega);apply aA (oU r' d) rfl;apply vn gJ rfl;refine vs _ rfl ?_ ?_<;>intro h19
    .have hdr:d<=r':=(hah r').1 (by assumption);apply aA (kN r' d (r'-d) (-1) (.inr rfl)) rfl;apply vn (aB (by omega) (by omega)) rfl;dsimp only [aE,aF];exact bD rfl ⟨⟨(r'-d,k'+1),by show r'-d+(k'+1)*d=r;rw [Nat.add_mul];omega⟩,aX.rfl,by show r'-d<r';omega⟩
    have hdr:r'<d:=by
     rcases Nat.lt_or_ge r' d with h | h
     .exact h
     .exact absurd ((hah r').2 h) (by assumption)
    obtain ⟨e1,e2⟩:=hfin r' k' hg hdr;rw [<-e1,<-e2];exact aL rfl
   refine bZ {g:Nat×Nat // g.1+g.2*d=r} (fun g=>[.one (bT g.1.1), .one (.int .i64 g.1.2)]) (fun g=>g.1.1) ⟨(r,0),by omega⟩ ⟨aJ.Sub.same,aJ.Sub.of_eq (congrArg (fun q:Nat=>aJ.one (aD.int .i64 (q:Int))) (by show k=0;omega)),trivial⟩ (fun _=>rfl) ?_;rintro ⟨⟨r',k'⟩,hg⟩;dsimp only [aE,aF] at hg ⊢;have hk3:=hkd k' (by omega);have hr3:=hle r' (by omega);apply aA (oU r' d) rfl;apply vn gJ rfl;refine vs _ rfl ?_ ?_<;>intro h27
   .have hdr:d<=r':=(hah r').1 (by assumption);apply aA (kN r' d (r'-d) (-1) (.inr rfl)) rfl;apply vn (aB (by omega) (by omega)) rfl;dsimp only [aE,aF];exact bD rfl ⟨⟨(r'-d,k'+1),by show r'-d+(k'+1)*d=r;rw [Nat.add_mul];omega⟩,aX.rfl,by show r'-d<r';omega⟩
   have hdr:r'<d:=by
    rcases Nat.lt_or_ge r' d with h | h
    .exact h
    .exact absurd ((hah r').2 h) (by assumption)
   obtain ⟨e1,e2⟩:=hfin r' k' hg hdr;rw [<-e1,<-e2];exact aL rfl
  apply vn (aB (by omega) (by omega)) rfl;apply aA (xF r ((bd d).length+1) 4 hrl) rfl;apply aA (xF d (bd d).length 3 hdl) rfl;rw [show (bd d).length+1-4=(bd d).length-3 by omega];have hd3:=wM (m:=d) (long:=(bd d).length) (i:=3) (by omega) hdl;have hr4:=wM (m:=r) (long:=(bd d).length+1) (i:=4) (by omega) hrl;rw [show (bd d).length+1-4=(bd d).length-3 by omega] at hr4;have hp3:=Wc (i:=3);have hp4:=Wc (i:=4);have hk1:=al9 (r:=r) (d:=d) (m:=(bd d).length-3);generalize r/32768^((bd d).length-3)=rt at *;generalize d/32768^((bd d).length-3)=dt at *;obtain ⟨k,hk⟩:∃ k,rt/(dt+1)=k:=⟨_,rfl⟩
  rw [hk] at hk1;have hk2:=hkd k hk1;apply vn (aB (by omega) (by omega)) rfl;dsimp only [aE,aF];apply vn (oX (c:=(k:Int)) (by omega) (by rw [Int.tdiv_eq_ediv_of_nonneg (oA _),show ((dt:Int)+1)=((dt+1:Nat):Int) by omega,<-Int.natCast_ediv,hk];exact fI)) rfl;apply vn gH rfl;refine vs _ rfl ?_ ?_<;>intro h38
  .have hm:=tB (k:Int) (d:Int) (by
    rw [Int.natAbs_natCast,Int.natAbs_natCast];have:(bd k).length<=1:=kM (by omega);omega)
   rw [VA hd,show (k:Int)*(d:Int)=((k*d:Nat):Int) by rw [Int.natCast_mul]] at hm;apply aA (tC k) rfl;apply aA hm rfl;dsimp only [aE,aF];apply aA (kN r (k*d) (r-k*d) (-1) (.inr rfl) (by have:=hle _ hk1;omega)) rfl;dsimp only [aE,aF];refine bZ {g:Nat×Nat // g.1+g.2*d=r} (fun g=>[.one (bT g.1.1), .one (.int .i64 g.1.2)]) (fun g=>g.1.1) ⟨(r-k*d,k),by show r-k*d+k*d=r;omega⟩ aX.rfl (fun _=>rfl) ?_;rintro ⟨⟨r',k'⟩,hg⟩;dsimp only [aE,aF] at hg ⊢;have hk3:=hkd k' (by omega);have hr3:=hle r' (by omega);apply aA (oU r' d) rfl;apply vn gJ rfl;refine vs _ rfl ?_ ?_<;>intro h45
   .have hdr:d<=r':=(hah r').1 (by assumption);apply aA (kN r' d (r'-d) (-1) (.inr rfl)) rfl;apply vn (aB (by omega) (by omega)) rfl;dsimp only [aE,aF];exact bD rfl ⟨⟨(r'-d,k'+1),by show r'-d+(k'+1)*d=r;rw [Nat.add_mul];omega⟩,aX.rfl,by show r'-d<r';omega⟩
   have hdr:r'<d:=by
    rcases Nat.lt_or_ge r' d with h | h
    .exact h
    .exact absurd ((hah r').2 h) (by assumption)
   obtain ⟨e1,e2⟩:=hfin r' k' hg hdr;rw [<-e1,<-e2];exact aL rfl
  refine bZ {g:Nat×Nat // g.1+g.2*d=r} (fun g=>[.one (bT g.1.1), .one (.int .i64 g.1.2)]) (fun g=>g.1.1) ⟨(r,0),by omega⟩ ⟨aJ.Sub.same,aJ.Sub.of_eq (congrArg (fun q:Nat=>aJ.one (aD.int .i64 (q:Int))) (by show k=0;omega)),trivial⟩ (fun _=>rfl) ?_;rintro ⟨⟨r',k'⟩,hg⟩;dsimp only [aE,aF] at hg ⊢;have hk3:=hkd k' (by omega);have hr3:=hle r' (by omega);apply aA (oU r' d) rfl;apply vn gJ rfl;refine vs _ rfl ?_ ?_<;>intro h53
  .have hdr:d<=r':=(hah r').1 (by assumption);apply aA (kN r' d (r'-d) (-1) (.inr rfl)) rfl;apply vn (aB (by omega) (by omega)) rfl;dsimp only [aE,aF];exact bD rfl ⟨⟨(r'-d,k'+1),by show r'-d+(k'+1)*d=r;rw [Nat.add_mul];omega⟩,aX.rfl,by show r'-d<r';omega⟩
  have hdr:r'<d:=by
   rcases Nat.lt_or_ge r' d with h | h
   .exact h
   .exact absurd ((hah r').2 h) (by assumption)
  obtain ⟨e1,e2⟩:=hfin r' k' hg hdr;rw [<-e1,<-e2];exact aL rfl
 apply vn gH rfl;refine vs _ rfl ?_ ?_<;>intro h59
 .exfalso;omega
 refine bZ {g:Nat×Nat // g.1+g.2*d=r} (fun g=>[.one (bT g.1.1), .one (.int .i64 g.1.2)]) (fun g=>g.1.1) ⟨(r,0),by omega⟩ aX.rfl (fun _=>rfl) ?_;rintro ⟨⟨r',k'⟩,hg⟩;dsimp only [aE,aF] at hg ⊢;have hk3:=hkd k' (by omega);have hr3:=hle r' (by omega);apply aA (oU r' d) rfl;apply vn gJ rfl;refine vs _ rfl ?_ ?_<;>intro h74
 .have hdr:d<=r':=(hah r').1 (by assumption);apply aA (kN r' d (r'-d) (-1) (.inr rfl)) rfl;apply vn (aB (by omega) (by omega)) rfl;dsimp only [aE,aF];exact bD rfl ⟨⟨(r'-d,k'+1),by show r'-d+(k'+1)*d=r;rw [Nat.add_mul];omega⟩,aX.rfl,by show r'-d<r';omega⟩
 have hdr:r'<d:=by
  rcases Nat.lt_or_ge r' d with h | h
  .exact h
  .exact absurd ((hah r').2 h) (by assumption)
 obtain ⟨e1,e2⟩:=hfin r' k' hg hdr;rw [<-e1,<-e2];exact aL rfl
set_option maxHeartbeats 1000000 in
theorem kQ (a d:Nat) (hd:0<d) (hs:(bd a).length+(bd d).length<34359738368:=by omega):aQ prog 219 [(.one (bT a):aJ),(.one (bT d):aJ)] (.ret [.one (bT (a/d)), .one (bT (a%d))]):=by
 refine eH func219 aH3 ?_
 have hdn:0<(bd d).length:=by
  rcases Nat.eq_zero_or_pos (bd d).length with h | h
  .have:=Pz.1 (List.eq_nil_of_length_eq_zero h);omega
  .exact h
 apply vn (aM eX (aK _)) rfl;apply vn (aM eX (aK _)) rfl;apply vn bQ rfl;refine vs _ rfl ?_ ?_<;>intro h3
 .have had:=uU (a:=a) (b:=d);refine jL ⟨bm8 (Nat.div_eq_of_lt had),?_,trivial⟩;rw [Nat.mod_eq_of_lt had];exact aD.Sub.same
 apply vn (aM eX (aK _)) rfl;dsimp only [aE,aF];apply vn (aG (by omega) (by omega)) rfl;apply vn (aH8 (m:=(bd d).length-1)) rfl;refine BC (ts:=[]) (us:=rB ((bd a).take ((bd d).length-1))) (vs:=rB ((bd a).take ((bd d).length-1))) rfl (.inr aD.Sub.same) rfl (by simp;omega) (by simp [maxLen];omega) ?_;apply aA (rL ((bd a).take ((bd d).length-1)) ((iK a).take _) (by rw [List.length_take];omega)) rfl;dsimp only [aE,aF];apply vn (aM eX (aK _)) rfl;apply vn (aG (by omega) (by omega)) rfl;dsimp only [aE,aF]
 refine bZ {g:Nat×Nat×List Nat // (bd d).length-1<=g.1/\g.1<=(bd a).length/\bv ((bd a).take g.1)=g.2.1+d*bv g.2.2/\g.2.1<d/\DB 32768 g.2.2/\g.2.2.length<=g.1} (fun g=>[.one (bT g.1.2.1), .one (.int .i64 g.1.1), .rows (rB g.1.2.2)]) (fun g=>(bd a).length-g.1.1) ⟨((bd d).length-1,bv ((bd a).take ((bd d).length-1)),[]),aY _,by show (bd d).length-1<=_;omega,by simp [bv,val],by
  have h1:=Ul ((iK a).take ((bd d).length-1));rw [List.length_take,Nat.min_eq_left (by omega)] at h1;exact Nat.lt_of_lt_of_le h1 (by2 (by omega)),ab1,dD _⟩ ⟨aJ.Sub.same,aJ.Sub.of_eq (congrArg (fun q=>aJ.one (aD.int .i64 q)) (by show ((bd d).length:Int)-1=(((bd d).length-1:Nat):Int);omega)),aJ.Sub.same,trivial⟩ (fun _=>rfl) ?_
 rintro ⟨⟨i,R,qs⟩,hi1,hi2,hv,hR,hq,hql⟩;dsimp only [aE,aF] at hi1 hi2 hv hR hq hql ⊢;have hRl:=fO (Nat.le_of_lt hR);apply vn (aM eX (aK _)) rfl;apply vn bQ rfl;refine vs _ rfl ?_ ?_<;>intro h15
 .obtain ⟨x,hx⟩:∃ x,(bd a)[i]? = some x:=⟨_,cC (by omega)⟩
  have hxB:=(iK a).get hx;refine BC (ts:=[]) (us:=rB (bd R)) (vs:=rB (bd R)) rfl (.inr aD.Sub.same) rfl (by simp;omega) (by simp [maxLen];omega) ?_;apply vn (aH eX (by omega) (by omega) hx) rfl;dsimp only [aE,aF];apply vn (cH Zz) rfl;apply eK (us:=rB [x]) rfl;refine BC (ts:=rB (bd R)) (us:=rB [x]) (vs:=rB (bd R ++ [x])) rfl rfl (by rw [rB,rB,rB,<-List.map_append]) (by simp;omega) (by simp [maxLen];omega) ?_;dsimp only [aE,aF];have hdb:DB 32768 (bd R ++ [x]):=(iK R).append (fun y hy=>by simp at hy;omega);apply aA (rL (bd R ++ [x]) hdb (by simp;omega)) rfl;rw [Ca,fJ]
  apply aA (aq6 (R*32768+x) d hd (by
   have:(R+1)*32768<=d*32768:=Nat.mul_le_mul_right _ hR;omega)) rfl
  have hmd:=Nat.mod_add_div (R*32768+x) d
  have hqB:(R*32768+x)/d<32768:=by
   rw [Nat.div_lt_iff_lt_mul hd,Nat.mul_comm];have:(R+1)*32768<=d*32768:=Nat.mul_le_mul_right _ hR;omega
  have hRm:=Nat.mod_lt (R*32768+x) hd;generalize (R*32768+x)/d=k at *;generalize (R*32768+x)%d=R' at *;apply eK (us:=rB [k]) rfl;refine BC (ts:=rB qs) (us:=rB [k]) (vs:=rB (qs ++ [k])) rfl rfl (by rw [rB,rB,rB,<-List.map_append]) (by simp;omega) (by simp [maxLen];omega) ?_;dsimp only [aE,aF];apply vn (aB (by omega) (by omega)) rfl;dsimp only [aE,aF]
  exact bD rfl ⟨⟨(i+1,R',qs ++ [k]),by show _<=i+1;omega,by show i+1<=_;omega,by
   show bv ((bd a).take (i+1))=R'+d*bv (qs ++ [k]);rw [take_succ hx,Ca,Ca,hv,Nat.mul_add,Nat.add_mul,<-Nat.mul_assoc];omega,hRm,hq.append (fun y hy=>by simp at hy;omega),by show (qs ++ [k]).length<=i+1;simp;omega⟩,aX.rfl,by show (bd a).length-(i+1)<(bd a).length-i;omega⟩
 have hie:i=(bd a).length:=by omega
 subst hie;rw [List.take_length,fJ] at hv;obtain ⟨e1,e2⟩:=zR hv hR;apply aA (rL qs hq) rfl;dsimp only [aE,aF];rw [<-e1,<-e2];exact aL rfl
theorem Sb (m:Nat) (hm:(bd m).length<=4:=by omega):aQ prog 225 [(.one (bT m):aJ)] (.ret [.one (.int .i64 m)]):=by
 refine eH func225 ZB ?_;refine bZ {i:Nat // i<=(bd m).length} (fun g=>[.one (.int .i64 (bv ((bd m).take g.1):Nat)), .one (.int .i64 g.1)]) (fun g=>(bd m).length-g.1) ⟨0,dD _⟩ aX.rfl (fun _=>rfl) ?_;rintro ⟨i,hi⟩;dsimp only [aE,aF] at hi ⊢;apply vn (aM eX (aK _)) rfl;apply vn bQ rfl;refine vs _ rfl ?_ ?_<;>intro h3
 .obtain ⟨x,hx⟩:∃ x,(bd m)[i]? = some x:=⟨_,cC (by omega)⟩
  have hxB:=(iK m).get hx;have hb:=Ul ((iK m).take i);rw [List.length_take,Nat.min_eq_left hi] at hb;have hp:=Wc (i:=i);have hb2:=Ul ((iK m).take (i+1));rw [List.length_take,Nat.min_eq_left (by omega)] at hb2;have hp2:=Wc (i:=i+1);have hsn:bv ((bd m).take (i+1))=bv ((bd m).take i)*32768+x:=by rw [take_succ hx,Ca]
  generalize bv ((bd m).take i)=y at *;apply vn (Af) rfl;apply vn (aH eX (by omega) (by omega) hx) rfl;dsimp only [aE,aF];apply vn (cH Zz) rfl;apply vn (aB (by omega) (by omega)) rfl;apply vn (aB (by omega) (by omega)) rfl;dsimp only [aE,aF];exact bD rfl ⟨⟨i+1,by omega⟩,⟨aJ.Sub.of_eq (congrArg (fun q:Int=>aJ.one (aD.int .i64 q)) (by show (y:Int)*32768+x=((bv ((bd m).take (i+1)):Nat):Int);omega)),aJ.Sub.same,trivial⟩,by show (bd m).length-(i+1)<(bd m).length-i;omega⟩
 rw [show i=(bd m).length by omega,List.take_length,fJ];exact aL rfl
set_option maxHeartbeats 1000000 in
theorem Wx (x y:Int) (hs:(bd x.natAbs).length<17179869184:=by omega) (qH:(bd y.natAbs).length<17179869184:=by omega):aQ prog 218 [(zT x:aJ),(zT y:aJ)] (.ret [zT ((Nat.gcd x.natAbs y.natAbs:Nat):Int)]):=by
 refine eH func218 ay8 ?_;refine bZ {p:Nat×Nat // Nat.gcd p.1 p.2=Nat.gcd x.natAbs y.natAbs/\(bd p.1).length<17179869184/\(bd p.2).length<17179869184} (fun p=>[.one (bT p.1.1), .one (bT p.1.2), .one (.int .i64 0), .one (.exact (.slice none 0 0))]) (fun p=>p.1.2) ⟨(x.natAbs,y.natAbs),rfl,hs,qH⟩ aX.rfl (fun _=>rfl) ?_;rintro ⟨⟨a,b⟩,hg,ha,hb⟩;dsimp only [aE,aF] at hg ha hb ⊢;have hbz:(bd b).length=0↔b=0:=by rw [List.length_eq_zero_iff,Pz]
 have hml:=fO (Nat.mod_le a b);apply vn (aM eX (aK _)) rfl;apply vn gH rfl;refine vs _ rfl ?_ ?_<;>intro h3
 .have hb0:0<b:=by
   rcases Nat.eq_zero_or_pos b with h | h
   .have:=hbz.2 h;omega
   .exact h
  apply vn (aM eX (aK _)) rfl;apply vn nX rfl;dsimp only [aE,aF];refine vs _ rfl ?_ ?_<;>intro h6
  .apply vn (aM eX (aK _)) rfl;apply vn nX rfl;refine vs _ rfl ?_ ?_<;>intro h9
   .have h4:∀ n,(bd n).length<=4->n<1152921504606846976:=fun n hn=>Nat.lt_of_lt_of_le (DJ n) (Wc hn);have ha4:=h4 a (by omega);have hb4:=h4 b (by omega);apply aA (Sb a) rfl;apply aA (Sb b) rfl;dsimp only [aE,aF];refine bZ {p:Nat×Nat // Nat.gcd p.1 p.2=Nat.gcd x.natAbs y.natAbs/\p.1<1152921504606846976/\p.2<1152921504606846976} (fun p=>[.one (.int .i64 p.1.1), .one (.int .i64 p.1.2)]) (fun p=>p.1.2) ⟨(a,b),hg,ha4,hb4⟩ aX.rfl (fun _=>rfl) ?_;rintro ⟨⟨p,q⟩,hpq,hp,hq⟩;dsimp only [aE,aF] at hpq hp hq ⊢;apply vn fG rfl;refine vs _ rfl ?_ ?_<;>intro h14
    .apply vn (Ez (c:=((p%q:Nat):Int)) (by omega) (by rw [Int.tmod_eq_emod_of_nonneg (oA _),<-Int.natCast_emod])) rfl;exact bD rfl ⟨⟨(q,p%q),by rw [<-hpq,Nat.gcd_comm p q,Nat.gcd_rec q p,Nat.gcd_comm],hq,Nat.lt_of_le_of_lt (Nat.mod_le _ _) hp⟩,aX.rfl,Nat.mod_lt _ (by omega)⟩
    have hq0:q=0:=by omega
    subst hq0;rw [Nat.gcd_zero_right] at hpq;apply aA (tC p) rfl;dsimp only [aE,aF];rw [<-hpq];exact aL rfl
   apply aA (kQ a b hb0) rfl;dsimp only [aE,aF];exact bD rfl ⟨⟨(b,a%b),by rw [<-hg,Nat.gcd_comm a b,Nat.gcd_rec b a,Nat.gcd_comm],hb,by show (bd (a%b)).length<_;omega⟩,aX.rfl,Nat.mod_lt _ hb0⟩
  apply aA (kQ a b hb0) rfl;dsimp only [aE,aF];exact bD rfl ⟨⟨(b,a%b),by rw [<-hg,Nat.gcd_comm a b,Nat.gcd_rec b a,Nat.gcd_comm],hb,by show (bd (a%b)).length<_;omega⟩,aX.rfl,Nat.mod_lt _ hb0⟩
 have hb0:b=0:=hbz.1 (by omega);subst hb0;rw [Nat.gcd_zero_right] at hg;apply aA (fR 1 (a:Int) (bd a) (iK _) (by rw [fJ];rfl) (fun hne=>by rw [fJ] at hne;exact Int.sign_eq_one_of_pos (by omega))) rfl;dsimp only [aE,aF];rw [<-hg];exact aL rfl
open Go Go.Proofs Tryz Ord
def bA3:Tr:=bI .eql 3 5 0 0 2 4 (.split (.u 1 0) (.need (.call 114 [(WK 1)] [(some 2)]) (.call ⟨.value (.func 114),#[(.const (I3 1))],#[2]⟩) 49 true (.ret [(G2 2)])) (.ret [(.agg [(U 0 2),(U 0 3)])]))
theorem bi2:aV prog f120 (fun _=>none) [.v (some 4)]=bA3:=by kernel_rfl
def bj3:Tr:=bI .eql 3 28 1 9 0 4 (.split (.u 10 0) (.ret [(.agg [(U 3 0),(U 3 1),(U 4 0),(U 4 1)])]) (aZ 219 [(W 3 1),(W 5 1)] [none,none] [36,38] [47,47] 247 false (aZ 219 [(W 4 1),(W 5 1)] [none,none] [44,46] [47,47] 247 false (aZ 189 [(W 3 0),(W 11 0)] [(some 2)] [51,52] [3,47] 49 false (.need (.call 189 [(WK 1),(W 13 0)] [(some 2)]) (.call ⟨.value (.func 189),#[(.const (I3 1)),(tT 54)],#[3,47]⟩) 49 true (.ret [(.agg [(U 15 0),(U 15 1),(U 16 0),(U 16 1)])]))))))
def bv1:Tr:=bI .eql 3 22 1 6 0 4 (.split (.u 7 0) (.need (.prim [(W 5 1),(WK 0)] none) (.indexAddr 47 (tT 26) (.const (I3 0))) 0 false (eI 8 0 none 3 27 bj3)) (aZ 219 [(W 3 1),(W 5 1)] [none,none] [36,38] [47,47] 247 false (aZ 219 [(W 4 1),(W 5 1)] [none,none] [44,46] [47,47] 247 false (aZ 189 [(W 3 0),(W 8 0)] [(some 2)] [51,52] [3,47] 49 false (.need (.call 189 [(WK 1),(W 10 0)] [(some 2)]) (.call ⟨.value (.func 189),#[(.const (I3 1)),(tT 54)],#[3,47]⟩) 49 true (.ret [(.agg [(U 12 0),(U 12 1),(U 13 0),(U 13 1)])]))))))
def be1:Tr:=bI .eql 3 28 1 7 0 4 (.split (.u 8 0) (.ret [(.agg [(U 0 0),(U 0 1),(U 1 0),(U 1 1)])]) (aZ 219 [(W 0 1),(W 3 1)] [none,none] [36,38] [47,47] 247 false (aZ 219 [(W 1 1),(W 3 1)] [none,none] [44,46] [47,47] 247 false (aZ 189 [(W 0 0),(W 9 0)] [(some 2)] [51,52] [3,47] 49 false (.need (.call 189 [(WK 1),(W 11 0)] [(some 2)]) (.call ⟨.value (.func 189),#[(.const (I3 1)),(tT 54)],#[3,47]⟩) 49 true (.ret [(.agg [(U 13 0),(U 13 1),(U 14 0),(U 14 1)])]))))))
def aP4:Tr:=bI .eql 3 22 1 4 0 4 (.split (.u 5 0) (.need (.prim [(W 3 1),(WK 0)] none) (.indexAddr 47 (tT 26) (.const (I3 0))) 0 false (eI 6 0 none 3 27 be1)) (aZ 219 [(W 0 1),(W 3 1)] [none,none] [36,38] [47,47] 247 false (aZ 219 [(W 1 1),(W 3 1)] [none,none] [44,46] [47,47] 247 false (aZ 189 [(W 0 0),(W 6 0)] [(some 2)] [51,52] [3,47] 49 false (.need (.call 189 [(WK 1),(W 8 0)] [(some 2)]) (.call ⟨.value (.func 189),#[(.const (I3 1)),(tT 54)],#[3,47]⟩) 49 true (.ret [(.agg [(U 10 0),(U 10 1),(U 11 0),(U 11 1)])]))))))
def bs7:Tr:=bI .lss 3 11 0 1 0 4 (.split (.u 2 0) (aZ 217 [(G2 0)] [(some 2)] [13] [49] 49 false (aZ 217 [(G2 1)] [(some 2)] [15] [49] 49 true (aZ 218 [(G2 3),(G2 4)] [(some 2)] [17,18] [49,49] 49 true (dS 5 1 21 47 bv1)))) (aZ 218 [(G2 0),(G2 1)] [(some 2)] [17,18] [49,49] 49 true (dS 3 1 21 47 aP4)))
theorem ZN:aV prog f173 (fun _=>none) [.v (some 2), .v (some 2)]=bs7:=by kernel_rfl
def bt6:Tr:=aZ 114 [(W 0 0)] [(some 2)] [5] [2] 49 false (aZ 114 [(W 1 0)] [(some 2)] [7] [2] 49 true (aZ 173 [(G2 2),(G2 3)] [(some 4)] [6,8] [49,49] 51 true (.ret [(G4 4)])))
theorem bC5:aV prog f75 (fun _=>none) [.v none, .v none]=bt6:=by kernel_rfl
def bD0:Tr:=aZ 119 [(G2 0),(G2 1)] [(some 2)] [6,8] [49,49] 49 false (aZ 120 [(G4 0)] [(some 2)] [10] [51] 49 false (aZ 120 [(G4 1)] [(some 2)] [12] [51] 49 false (aZ 119 [(G2 3),(G2 4)] [(some 2)] [11,13] [49,49] 49 true (aZ 173 [(G2 2),(G2 5)] [(some 4)] [9,14] [49,49] 51 true (.ret [(G4 6)])))))
theorem ba8:aV prog f77 (fun _=>none) [.v (some 4), .v (some 4)]=bD0:=by kernel_rfl
def bq5:Tr:=aZ 120 [(G4 1)] [(some 2)] [7] [51] 49 false (aZ 119 [(G2 0),(G2 2)] [(some 2)] [6,8] [49,49] 49 false (aZ 120 [(G4 0)] [(some 2)] [12] [51] 49 false (aZ 119 [(G2 1),(G2 4)] [(some 2)] [11,13] [49,49] 49 true (aZ 118 [(G2 3),(G2 5)] [none] [9,14] [49,49] 3 true (.ret [(W 6 0)])))))
theorem bl2:aV prog f41 (fun _=>none) [.v (some 4), .v (some 4)]=bq5:=by kernel_rfl
structure RQ where
 q:Rat
 z:Bool
 h:z=true->q=0
def RQ.of (q:Rat):RQ:=⟨q,false,fun h=>by cases h⟩
def RQ.nil:RQ:=⟨0,true,fun _=>rfl⟩
abbrev rC (a:RQ):List aD:=[.int .i64 a.q.num.sign,bT a.q.num.natAbs, .int .i64 (if a.z then 0 else 1),bT (if a.z then 0 else a.q.den)]
abbrev YP (a:RQ):aJ:=.agg (rC a)
theorem RQ.aZ6 (q:Rat):(RQ.of q).q=q:=rfl
theorem aY4 (q:Rat):zT (q.den:Int) = .agg [.int .i64 1,bT q.den]:=VA q.den_pos
theorem QR (a:RQ):aQ prog 120 [(YP a:aJ)] (.ret [zT (a.q.den:Int)]):=by
 refine eH func120 bi2 ?_;apply vn dP rfl;refine vs _ rfl ?_ ?_<;>intro h1
 .have ha:a.z=true:=by cases h:a.z<;>simp_all
  have hq:=a.h ha;apply aA (tC 1) rfl;dsimp only [aE,aF];rw [hq];exact aL rfl
 have ha:a.z=false:=by cases h:a.z<;>simp_all
 refine aL ?_;rw [aY4];show [aJ.agg [.int .i64 (if a.z then 0 else 1),bT (if a.z then 0 else a.q.den)]]=_;rw [ha];rfl
theorem nP {n B:Nat} (h:n<2^B:=by omega):(bd n).length<=B:=kM (Nat.lt_of_lt_of_le h (Nat.pow_le_pow_left (by omega) B))
def tR (n d:Int):Rat:=mkRat (if d<0 then -n else n) d.natAbs
theorem aH0 {z:Int} {d:Nat} (hd:d≠0:=by omega):(mkRat z d).num=z/((z.natAbs.gcd d:Nat):Int)/\(mkRat z d).den=d/z.natAbs.gcd d/\(mkRat z d).num.natAbs=z.natAbs/z.natAbs.gcd d/\(mkRat z d).num.sign=z.sign:=by
 obtain ⟨h1,h2⟩:=ag8 (z:=z) hd;have hg:0<z.natAbs.gcd d:=Nat.gcd_pos_of_pos_right _ (by omega);have hgz:z≠0->z.natAbs.gcd d<=z.natAbs:=fun h=>Nat.gcd_le_left _ (by omega)
 have h3:(mkRat z d).num.natAbs=z.natAbs/z.natAbs.gcd d:=by
  rw [h1];generalize z.natAbs/z.natAbs.gcd d=t;split<;>omega
 refine ⟨?_,h2,h3,?_⟩
 .rw [<-Rat.normalize_eq_mkRat hd,Rat.normalize_eq hd]
 .rcases dH z with ⟨h,e⟩ | ⟨h,e⟩ | ⟨h,e⟩
  .rw [e,h1,decide_eq_true h,if_pos rfl];have:=Nat.div_pos (hgz (by omega)) hg;exact Int.sign_eq_neg_one_of_neg (by omega)
  .rw [e];subst h;rw [Rat.zero_mkRat];rfl
  .rw [e,h1,decide_eq_false (by omega),if_neg (by simp)];have:=Nat.div_pos (hgz (by omega)) hg;exact Int.sign_eq_one_of_pos (by omega)
theorem wI {g:Nat} (h:(bd g).length=1) {x:Nat} (hx:(bd g)[0]? = some x):g=x:=by
 match hb:bd g,h with
 | [y],_=>
   rw [hb] at hx;simp only [List.getElem?_cons_zero,aN] at hx;subst hx;rw [<-fJ g,hb,BL];simp [bv,val]
theorem NN {q:Rat}:YP (RQ.of q) = .agg [.int .i64 q.num.sign,bT q.num.natAbs, .int .i64 1,bT q.den]:=rfl
set_option maxHeartbeats 1000000 in
theorem TL (n d:Int) (hd:d≠0) (hs:(bd n.natAbs).length<8589934592:=by omega) (qH:(bd d.natAbs).length<8589934592:=by omega):aQ prog 173 [(zT n:aJ),(zT d:aJ)] (.ret [YP (.of (tR n d))]):=by
 refine eH func173 ZN ?_;have hsd:=dH d
 have key:∀ m:Int,m.natAbs=n.natAbs->tR n d=mkRat m d.natAbs->(tR n d).den=d.natAbs/Nat.gcd n.natAbs d.natAbs/\(tR n d).num.natAbs=n.natAbs/Nat.gcd n.natAbs d.natAbs/\(tR n d).num.sign=m.sign:=fun m hm e=>by
  have:=aH0 (z:=m) (d:=d.natAbs);rw [hm] at this;rw [e];exact ⟨this.2.1,this.2.2.1,this.2.2.2⟩
 have hg:0<Nat.gcd n.natAbs d.natAbs:=Nat.gcd_pos_of_pos_right _ (by omega);have hgd:Nat.gcd n.natAbs d.natAbs<=d.natAbs:=Nat.gcd_le_right _ (by omega);have hgl:=fO hgd;have hdg:=Nat.div_pos hgd hg;have hnl:=fO (Nat.div_le_self n.natAbs (Nat.gcd n.natAbs d.natAbs));have hdl:=fO (Nat.div_le_self d.natAbs (Nat.gcd n.natAbs d.natAbs));apply vn bQ rfl;refine vs _ rfl ?_ ?_<;>intro h1
 .have hd0:d<0:=by rcases hsd with ⟨h,e⟩ | ⟨h,e⟩ | ⟨h,e⟩<;>omega
  have hR:tR n d=mkRat (-n) d.natAbs:=by rw [tR,if_pos hd0]
  obtain ⟨k1,k2,k3⟩:=key (-n) (Int.natAbs_neg n) hR;generalize tR n d=q at *;apply aA (QU n) rfl;apply aA (QU d) rfl;dsimp only [aE,aF];have hc:=Wx (-n) (-d) (by rw [Int.natAbs_neg];omega) (by rw [Int.natAbs_neg];omega);rw [Int.natAbs_neg,Int.natAbs_neg] at hc;apply aA hc rfl;generalize hG:Nat.gcd n.natAbs d.natAbs=g at *;apply vn (aM eX (aK _)) rfl;apply vn dP rfl;refine vs _ rfl ?_ ?_<;>intro h7
  .obtain ⟨x,hx⟩:∃ x,(bd g)[0]? = some x:=⟨_,cC (by rw [Int.natAbs_natCast] at h7;omega)⟩
   apply vn (aH eX (by omega) (by omega) (show (bd ((g:Int)).natAbs)[0]? = some x from hx)) rfl;dsimp only [aE,aF];apply vn (cH Zz) rfl;apply vn dP rfl;refine vs _ rfl ?_ ?_<;>intro h11
   .have hg1:g=1:=by
     have:=wI (g:=g) (by rw [Int.natAbs_natCast] at h7;omega) hx;omega
    rw [hg1,Nat.div_one] at k1 k2;refine aL ?_;rw [NN,k3,k2,k1];show [aJ.agg [.int .i64 (-n).sign,bT (-n).natAbs, .int .i64 (-d).sign,bT (-d).natAbs]]=_;rw [Int.natAbs_neg,Int.natAbs_neg,Int.sign_eq_one_of_pos (show 0 < -d by omega)]
   have ho1:=kQ n.natAbs g hg;have ho2:=kQ d.natAbs g hg;rw [<-k2] at ho1 hnl;rw [<-k1] at ho2 hdl hdg;have hn':(-n).natAbs=n.natAbs:=Int.natAbs_neg n;have hd':(-d).natAbs=d.natAbs:=Int.natAbs_neg d;rw [<-hn'] at ho1;rw [<-hd'] at ho2;apply aA ho1 rfl;apply aA ho2 rfl;dsimp only [aE,aF];apply aA (fR (-n).sign q.num _ (iK _) (by rw [fJ]) (fun _=>k3)) rfl;apply aA (fR 1 (q.den:Int) _ (iK _) (by rw [fJ];rfl) (fun _=>Int.sign_eq_one_of_pos (by omega))) rfl;dsimp only [aE,aF];refine aL ?_;rw [NN];show [aJ.agg [.int .i64 q.num.sign,bT q.num.natAbs, .int .i64 (q.den:Int).sign,bT (q.den:Int).natAbs]]=_;rw [Int.sign_eq_one_of_pos (show (0:Int)<q.den by omega),Int.natAbs_natCast]
  have ho1:=kQ n.natAbs g hg;have ho2:=kQ d.natAbs g hg;rw [<-k2] at ho1 hnl;rw [<-k1] at ho2 hdl hdg;have hn':(-n).natAbs=n.natAbs:=Int.natAbs_neg n;have hd':(-d).natAbs=d.natAbs:=Int.natAbs_neg d;rw [<-hn'] at ho1;rw [<-hd'] at ho2;apply aA ho1 rfl;apply aA ho2 rfl;apply aA (fR (-n).sign q.num _ (iK _) (by rw [fJ]) (fun _=>k3)) rfl;apply aA (fR 1 (q.den:Int) _ (iK _) (by rw [fJ];rfl) (fun _=>Int.sign_eq_one_of_pos (by omega))) rfl;dsimp only [aE,aF];refine aL ?_;rw [NN];show [aJ.agg [.int .i64 q.num.sign,bT q.num.natAbs, .int .i64 (q.den:Int).sign,bT (q.den:Int).natAbs]]=_;rw [Int.sign_eq_one_of_pos (show (0:Int)<q.den by omega),Int.natAbs_natCast]
 have hd0:0<d:=by rcases hsd with ⟨h,e⟩ | ⟨h,e⟩ | ⟨h,e⟩<;>omega
 have hR:tR n d=mkRat n d.natAbs:=by rw [tR,if_neg (by omega)]
 obtain ⟨k1,k2,k3⟩:=key n rfl hR;generalize tR n d=q at *;have hc:=Wx n d;apply aA hc rfl;generalize hG:Nat.gcd n.natAbs d.natAbs=g at *;apply vn (aM eX (aK _)) rfl;apply vn dP rfl;refine vs _ rfl ?_ ?_<;>intro h26
 .obtain ⟨x,hx⟩:∃ x,(bd g)[0]? = some x:=⟨_,cC (by rw [Int.natAbs_natCast] at h26;omega)⟩
  apply vn (aH eX (by omega) (by omega) (show (bd ((g:Int)).natAbs)[0]? = some x from hx)) rfl;dsimp only [aE,aF];apply vn (cH Zz) rfl;apply vn dP rfl;refine vs _ rfl ?_ ?_<;>intro h30
  .have hg1:g=1:=by
    have:=wI (g:=g) (by rw [Int.natAbs_natCast] at h26;omega) hx;omega
   rw [hg1,Nat.div_one] at k1 k2;refine aL ?_;rw [NN,k3,k2,k1];show [aJ.agg [.int .i64 n.sign,bT n.natAbs, .int .i64 d.sign,bT d.natAbs]]=_;rw [Int.sign_eq_one_of_pos (show 0<d by omega)]
  have ho1:=kQ n.natAbs g hg;have ho2:=kQ d.natAbs g hg;rw [<-k2] at ho1 hnl;rw [<-k1] at ho2 hdl hdg;apply aA ho1 rfl;apply aA ho2 rfl;dsimp only [aE,aF];apply aA (fR n.sign q.num _ (iK _) (by rw [fJ]) (fun _=>k3)) rfl;apply aA (fR 1 (q.den:Int) _ (iK _) (by rw [fJ];rfl) (fun _=>Int.sign_eq_one_of_pos (by omega))) rfl;dsimp only [aE,aF];refine aL ?_;rw [NN];show [aJ.agg [.int .i64 q.num.sign,bT q.num.natAbs, .int .i64 (q.den:Int).sign,bT (q.den:Int).natAbs]]=_;rw [Int.sign_eq_one_of_pos (show (0:Int)<q.den by omega),Int.natAbs_natCast]
 have ho1:=kQ n.natAbs g hg;have ho2:=kQ d.natAbs g hg;rw [<-k2] at ho1 hnl;rw [<-k1] at ho2 hdl hdg;apply aA ho1 rfl;apply aA ho2 rfl;apply aA (fR n.sign q.num _ (iK _) (by rw [fJ]) (fun _=>k3)) rfl;apply aA (fR 1 (q.den:Int) _ (iK _) (by rw [fJ];rfl) (fun _=>Int.sign_eq_one_of_pos (by omega))) rfl;dsimp only [aE,aF];refine aL ?_;rw [NN];show [aJ.agg [.int .i64 q.num.sign,bT q.num.natAbs, .int .i64 (q.den:Int).sign,bT (q.den:Int).natAbs]]=_;rw [Int.sign_eq_one_of_pos (show (0:Int)<q.den by omega),Int.natAbs_natCast]
theorem aq9 {n:Int} {d:Nat}:tR n (d:Int)=mkRat n d:=by
 rw [tR,if_neg (by omega),Int.natAbs_natCast]
theorem ak5 {a b:Rat} (hb:b≠0):tR (a.num*(b.den:Int)) ((a.den:Int)*b.num)=a/b:=by
 have hn:b.num≠0:=fun e=>hb (Rat.num_eq_zero.1 e);have ha:=a.den_pos;rw [<-ah8 hb,tR,Int.natAbs_mul,Int.natAbs_natCast];by_cases h:b.num<0
 .rw [if_pos (Int.mul_neg_of_pos_of_neg (by omega) h),decide_eq_true h,if_pos rfl,Int.mul_neg]
 .rw [if_neg (by have:=Int.mul_nonneg (show (0:Int)<=a.den by omega) (show 0<=b.num by omega);omega),decide_eq_false h,if_neg (by simp)]
theorem aH6 {n d:Int} (hd:d≠0):tR n d=(n:Rat)/(d:Rat):=by
 have h:=ak5 (a:=(n:Rat)) (b:=(d:Rat)) (by rw [Ne,<-Rat.num_eq_zero,Rat.num_intCast];exact hd);rw [Rat.num_intCast,Rat.num_intCast,Rat.den_intCast,Rat.den_intCast] at h;rw [<-h];congr 1<;>omega
theorem Fit.bd {B:Nat} {q:Rat} (h:Fit B q):(bd q.num.natAbs).length<=B/\(bd q.den).length<=B:=⟨nP h.1,nP h.2⟩
theorem aL5 (n d:Int) (h1:-9223372036854775808<=n) (h2:n<9223372036854775808) (hd:d≠0:=by omega) (h3:-9223372036854775808<=d:=by omega) (h4:d<9223372036854775808:=by omega):aQ prog 75 [(.one (.int .i64 n):aJ),(.one (.int .i64 d):aJ)] (.ret [YP (.of ((n:Rat)/(d:Rat)))]):=by
 refine eH func75 bC5 ?_;apply aA (tC n h1 h2) rfl;apply aA (tC d h3 h4) rfl;dsimp only [aE,aF];have hn:=nP (n:=n.natAbs) (B:=64);have hdd:=nP (n:=d.natAbs) (B:=64);apply aA (TL n d hd) rfl;rw [aH6 hd];exact aL rfl
theorem bb8 (a b:RQ) (A B:Nat) (ha:Fit A a.q) (hb:Fit B b.q) (h:A+B<=4294967296:=by omega):aQ prog 77 [(YP a:aJ),(YP b:aJ)] (.ret [YP (.of (a.q*b.q))]):=by
 refine eH func77 ba8 ?_;obtain ⟨ha1,ha2⟩:=Fit.bd ha;obtain ⟨hb1,hb2⟩:=Fit.bd hb;have hn:=nP (cL ha.1 hb.1);have hd:=nP (cL ha.2 hb.2);have hpa:=a.q.den_pos;have hpb:=b.q.den_pos;apply aA (tB a.q.num b.q.num) rfl;apply aA (QR a) rfl;apply aA (QR b) rfl;apply aA (tB (a.q.den:Int) (b.q.den:Int) (by rw [Int.natAbs_natCast,Int.natAbs_natCast];omega)) rfl;rw [<-Int.natCast_mul];dsimp only [aE,aF];apply aA (TL _ ((a.q.den*b.q.den:Nat):Int) (by have:=Nat.mul_pos hpa hpb;omega) (by rw [Int.natAbs_mul];omega) (by rw [Int.natAbs_natCast];omega)) rfl;rw [aq9,<-Rat.mul_def'];exact aL rfl
theorem aO8 (a b:RQ) (A B:Nat) (ha:Fit A a.q) (hb:Fit B b.q) (h:A+B<=4294967296:=by omega):aQ prog 41 [(YP a:aJ),(YP b:aJ)] (.ret [.one (.int .i64 (gG a.q b.q))]):=by
 refine eH func41 bl2 ?_;obtain ⟨ha1,ha2⟩:=Fit.bd ha;obtain ⟨hb1,hb2⟩:=Fit.bd hb;have hn1:=nP (cL ha.1 hb.2);have hn2:=nP (cL hb.1 ha.2);apply aA (QR b) rfl;apply aA (tB a.q.num (b.q.den:Int) (by rw [Int.natAbs_natCast];omega)) rfl;apply aA (QR a) rfl;apply aA (tB b.q.num (a.q.den:Int) (by rw [Int.natAbs_natCast];omega)) rfl;dsimp only [aE,aF];apply aA (at4 _ _ (by rw [Int.natAbs_mul,Int.natAbs_natCast];omega) (by rw [Int.natAbs_mul,Int.natAbs_natCast];omega)) rfl;rw [<-zN];exact aL rfl
end Go.Sy
