/- Part. -/
import Derived.Test.YtpaidpkaechleaaGreatDoorNb
set_option linter.all false
namespace Go.Sy
open Go Go.Proofs Tryz Ord
def NX:Tr:=.ret [(W 1 0)]
def au4:Tr:=.split (.u 3 0) (.need (.prim [(W 1 0),(WK 0)] none) (.indexAddr 31 (tT 7) (.const (I3 0))) 0 false (mN 4 0 none 3 8 (aO .eql 3 9 0 5 0 4 (.split (.u 6 0) (.need (.prim [(W 1 0),(WK 1)] none) (.slice 31 (tT 12) (some (.const (I3 1))) none none) 31 false (.back 0 [lV 7 0])) NX)))) NX
def aJ2:Tr:=.loop 0 [lV 0 0] (dH 1 0 3 31 (aO .gtr 3 4 0 2 0 4 au4))
theorem TT:aK prog f157 (fun _=>none) [.v none]=aJ2:=by kernel_rfl
def aH1:Tr:=aC 157 [(W 1 0)] [none] [5] [31] 31 true (dH 2 0 7 31 (aO .eql 3 8 0 3 0 4 (.split (.u 4 0) (.ret [(.agg [(tE (.int .i64 0)),tN])]) (.ret [(.agg [(U 0 0),(U 2 0)])]))))
theorem Xn:aK prog f114 (fun _=>none) [.v none, .v none]=aH1:=by kernel_rfl
def aw0:Tr:=aO .lss 3 12 0 5 0 4 (.split (.u 6 0) (.need (.prim [(W 5 0)] none) (.unOp .neg 3 (tT 14)) 3 false (.need (.lit 1 [[(.u 7 0)]]) (.buildSlice 31 1 #[(0,(tT 16))]) 31 false (.need (.app 1 8 (some 8) none (some 3)) (.call ⟨.builtin .append,#[(tT 17),(tT 18)],#[31,31]⟩) 31 false (aO .quo 2 20 32768 2 0 2 (.back 0 [lV 10 0, .row 9]))))) (.need (.lit 1 [[(.u 5 0)]]) (.buildSlice 31 1 #[(0,(tT 16))]) 31 false (.need (.app 1 8 (some 7) none (some 3)) (.call ⟨.builtin .append,#[(tT 17),(tT 18)],#[31,31]⟩) 31 false (aO .quo 2 20 32768 2 0 2 (.back 0 [lV 9 0, .row 8])))))
def Yy:Tr:=aO .rem 2 10 32768 2 0 2 aw0
def UK:Tr:=.ret [(G2 5)]
def ay2:Tr:=aO .lss 2 6 0 0 0 4 (.split (.u 1 0) (.loop 0 [lV 0 0, .nilrow] (aO .neq 2 8 0 2 0 4 (.split (.u 4 0) Yy (aC 114 [(WK (-1)),(.one (.c (.sr 1 3)))] [(some 2)] [22,23] [3,31] 33 true UK)))) (.loop 0 [lV 0 0, .nilrow] (aO .neq 2 8 0 2 0 4 (.split (.u 4 0) Yy (aC 114 [(WK 1),(.one (.c (.sr 1 3)))] [(some 2)] [22,23] [3,31] 33 true UK)))))
theorem WU:aK prog f59 (fun _=>none) [.v none]=ay2:=by kernel_rfl
def Zd:Tr:=.ret [(WK (-1))]
def YC:Tr:=.ret [(WK 1)]
def al9:Tr:=mN 14 0 none 3 33 (mB 1 0 6 0 31 35 36 (mN 16 0 none 3 37 (bG .gtr 3 34 38 15 0 17 0 4 (.split (.u 18 0) YC (aO .add 3 20 1 6 0 3 (.back 0 [lV 5 0,lV 19 0]))))))
def Zt:Tr:=mB 0 0 6 0 31 22 23 (mN 9 0 none 3 24 (mB 1 0 6 0 31 26 27 (mN 11 0 none 3 28 (bG .lss 3 25 29 10 0 12 0 4 (.split (.u 13 0) Zd (mB 0 0 6 0 31 31 32 al9))))))
def Vw:Tr:=.ret [(WK 0)]
def au5:Tr:=dH 1 0 8 31 (bG .neq 3 7 9 2 0 3 0 4 (.split (.u 4 0) (dH 0 0 11 31 (dH 1 0 13 31 (bG .lss 3 12 14 5 0 6 0 4 (.split (.u 7 0) Zd YC)))) (.loop 0 [lK 0,lK 0] (dH 0 0 17 31 (bG .lss 3 16 18 6 0 7 0 4 (.split (.u 8 0) Zt Vw))))))
def ay5:Tr:=dH 0 0 6 31 au5
theorem TV:aK prog f116 (fun _=>none) [.v none, .v none]=ay5:=by kernel_rfl
def at1:Tr:=.split (.u 3 0) Vw (dH 0 0 10 31 (aO .sub 3 11 1 4 0 3 (bG .sub 3 12 13 5 0 1 0 3 (mB 0 0 6 0 31 9 14 (mN 7 0 none 3 15 (.ret [(W 8 0)]))))))
def ay1:Tr:=dH 0 0 6 31 (bG .geq 3 5 7 1 0 2 0 4 at1)
theorem Uj:aK prog f160 (fun _=>none) [.v none, .v none]=ay1:=by kernel_rfl
def Yz:Tr:=.ret [(W 5 0)]
def at5:Tr:=dH 0 0 5 31 (dH 1 0 7 31 (bG .gtr 3 6 8 2 0 3 0 4 (.split (.u 4 0) (dH 0 0 10 31 Yz) (dH 1 0 12 31 Yz))))
theorem Nt:aK prog f159 (fun _=>none) [.v none, .v none]=at5:=by kernel_rfl
def an2:Tr:=aO .sub 3 40 32768 16 0 3 (aO .sub 3 43 1 4 0 3 (bG .sub 3 44 45 19 0 7 0 3 (.need (.idx 8 (.u 20 0)) (.indexAddr 31 (tT 42) (tT 46)) 0 false (.need (.strow 8 1 (.u 20 0) 0 [(.u 18 0)]) (.store 3 (tT 48) (tT 47)) 0 false (aO .add 3 21 1 7 0 3 (.back 0 [lK 1,lV 22 0, .row 21]))))))
def ZB:Tr:=.split (.u 17 0) an2 (aO .sub 3 43 1 4 0 3 (bG .sub 3 44 45 18 0 7 0 3 (.need (.idx 8 (.u 19 0)) (.indexAddr 31 (tT 42) (tT 46)) 0 false (.need (.strow 8 1 (.u 19 0) 0 [(.u 16 0)]) (.store 3 (tT 48) (tT 47)) 0 false (aO .add 3 21 1 7 0 3 (.back 0 [lK (-1),lV 21 0, .row 20]))))))
def ap2:Tr:=aO .sub 3 40 32768 14 0 3 (aO .sub 3 43 1 4 0 3 (bG .sub 3 44 45 18 0 7 0 3 (.need (.idx 8 (.u 19 0)) (.indexAddr 31 (tT 42) (tT 46)) 0 false (.need (.strow 8 1 (.u 19 0) 0 [(.u 17 0)]) (.store 3 (tT 48) (tT 47)) 0 false (aO .add 3 21 1 7 0 3 (.back 0 [lK 1,lV 21 0, .row 20]))))))
def ac1:Tr:=.split (.u 16 0) ap2 (aO .sub 3 43 1 4 0 3 (bG .sub 3 44 45 17 0 7 0 3 (.need (.idx 8 (.u 18 0)) (.indexAddr 31 (tT 42) (tT 46)) 0 false (.need (.strow 8 1 (.u 18 0) 0 [(.u 14 0)]) (.store 3 (tT 48) (tT 47)) 0 false (aO .add 3 21 1 7 0 3 (.back 0 [lK 0,lV 20 0, .row 19]))))))
def aE0:Tr:=bG .mul 3 26 29 2 0 11 0 3 (bG .add 3 25 30 10 0 12 0 3 (bG .add 3 31 32 13 0 6 0 3 (aO .lss 3 34 0 14 0 4 (.split (.u 15 0) (aO .add 3 36 32768 14 0 3 (aO .geq 3 38 32768 16 0 4 ZB)) (aO .geq 3 38 32768 14 0 4 ac1)))))
def aE5:Tr:=aO .add 3 14 1 3 0 3 (.need (.make [(.int .i64 0)] 8 (.u 4 0) (.u 4 0)) (.makeSlice 31 (tT 16) (tT 16)) 31 false (.loop 0 [lK 0,lK 0, .row 5] (bG .lss 3 18 19 7 0 4 0 4 (.split (.u 9 0) (aC 160 [(W 0 0),(W 7 0)] [none] [23,24] [31,3] 3 false (aC 160 [(W 1 0),(W 7 0)] [none] [27,28] [31,3] 3 false aE0)) (aC 157 [(.one (.c (.sr 1 8)))] [none] [49] [31] 31 true (.ret [(W 10 0)]))))))
def aF7:Tr:=aC 159 [(W 0 0),(W 1 0)] [none] [12,13] [31,31] 3 true aE5
theorem Xe:aK prog f115 (fun _=>none) [.v none, .v none, .v none]=aF7:=by kernel_rfl
def YB:Tr:=.ret [(.agg [(U 1 0),(U 0 1)])]
def aC2:Tr:=.need (.prim [(W 0 0)] none) (.unOp .neg 3 (tT 4)) 3 false YB
theorem Xs:aK prog f113 (fun _=>none) [.v (some 2)]=aC2:=by kernel_rfl
def aB7:Tr:=bG .mul 3 4 6 0 0 0 0 3 YB
theorem Yf:aK prog f49 (fun _=>none) [.v (some 2)]=aB7:=by kernel_rfl
def NM:Tr:=.ret [(G2 8)]
def aI2:Tr:=bG .eql 3 14 16 0 0 1 0 4 (.split (.u 4 0) (.need (.call 115 [(W 0 1),(W 1 1),(WK 1)] [none]) (.call ⟨.value (.func 115),#[(tT 21),(tT 23),(.const (I3 1))],#[31,31,3]⟩) 31 true (aC 114 [(W 0 0),(W 5 0)] [(some 2)] [19,24] [3,31] 33 true (.ret [(G2 6)]))) (aC 116 [(W 0 1),(W 1 1)] [none] [27,29] [31,31] 3 true (aO .geq 3 30 0 5 0 4 (.split (.u 6 0) (.need (.call 115 [(W 0 1),(W 1 1),(WK (-1))] [none]) (.call ⟨.value (.func 115),#[(tT 35),(tT 37),(.const (I3 (-1)))],#[31,31,3]⟩) 31 true (aC 114 [(W 0 0),(W 7 0)] [(some 2)] [33,38] [3,31] 33 true NM)) (.need (.call 115 [(W 1 1),(W 0 1),(WK (-1))] [none]) (.call ⟨.value (.func 115),#[(tT 43),(tT 45),(.const (I3 (-1)))],#[31,31,3]⟩) 31 true (aC 114 [(W 1 0),(W 7 0)] [(some 2)] [41,46] [3,31] 33 true NM))))))
def aJ3:Tr:=aO .eql 3 6 0 0 0 4 (.split (.u 2 0) (.ret [(G2 1)]) (aO .eql 3 10 0 1 0 4 (.split (.u 3 0) (.ret [(G2 0)]) aI2)))
theorem VO:aK prog f61 (fun _=>none) [.v (some 2), .v (some 2)]=aJ3:=by kernel_rfl
def Zv:Tr:=aO .add 3 58 1 27 0 3 (aO .rem 3 60 32768 26 0 3 (.need (.idx 15 (.u 28 0)) (.indexAddr 31 (tT 55) (tT 59)) 0 false (.need (.strow 15 1 (.u 28 0) 0 [(.u 29 0)]) (.store 3 (tT 62) (tT 61)) 0 false (aO .quo 3 63 32768 26 0 3 (aO .sub 3 32 1 14 0 3 (.back 1 [lV 31 0,lV 32 0, .row 30]))))))
def aj4:Tr:=mN 20 0 none 3 44 (mB 1 1 14 0 31 47 48 (mN 22 0 none 3 49 (bG .mul 3 45 50 21 0 23 0 3 (bG .add 3 40 51 19 0 24 0 3 (bG .add 3 52 53 25 0 13 0 3 (bG .add 3 56 57 8 0 14 0 3 Zv))))))
def af5:Tr:=aO .geq 3 30 0 14 0 4 (.split (.u 16 0) (bG .add 3 35 36 8 0 14 0 3 (aO .add 3 37 1 17 0 3 (.need (.idx 15 (.u 18 0)) (.indexAddr 31 (tT 34) (tT 38)) 0 false (.need (.ldrow 15 (.u 18 0) 0 1 false) (.load 3 (tT 39)) 3 false (mB 0 1 8 0 31 42 43 aj4))))) (.need (.idx 15 (.u 8 0)) (.indexAddr 31 (tT 65) (tT 66)) 0 false (.need (.strow 15 1 (.u 8 0) 0 [(.u 13 0)]) (.store 3 (tT 68) (tT 67)) 0 false (aO .sub 3 24 1 8 0 3 (.back 0 [lV 18 0, .row 17])))))
def aC9:Tr:=aO .sub 3 20 1 6 0 3 (.loop 0 [lV 7 0, .row 5] (aO .geq 3 22 0 8 0 4 (.split (.u 10 0) (dH 1 1 27 31 (aO .sub 3 28 1 11 0 3 (.loop 1 [lK 0,lV 12 0, .row 9] af5))) (bG .mul 3 70 72 0 0 1 0 3 (aC 114 [(W 11 0),(.one (.c (.sr 1 9)))] [(some 2)] [73,74] [3,31] 33 true (.ret [(G2 12)]))))))
def aK5:Tr:=dH 0 1 11 31 (dH 1 1 14 31 (bG .add 3 12 15 2 0 3 0 3 (.need (.make [(.int .i64 0)] 8 (.u 4 0) (.u 4 0)) (.makeSlice 31 (tT 16) (tT 16)) 31 false (dH 0 1 19 31 aC9))))
theorem WB:aK prog f54 (fun _=>none) [.v (some 2), .v (some 2)]=aK5:=by kernel_rfl
abbrev rB (ds:List Nat):List (List aN):=ds.map fun (d:Nat)=>[aN.int .i64 (d:Int)]
abbrev sB (ds:List Nat):aN:=.slice 1 (rB ds)
abbrev bT (n:Nat):aN:=sB (bd n)
abbrev zC (z:Int):List aN:=[.int .i64 z.sign,bT z.natAbs]
abbrev zT (z:Int):aI:=.agg (zC z)
theorem Se:DB 32768 []:=fun d hd=>by cases hd
theorem VF {n:Nat} (h:n=0):aN.Sub (.exact (.slice none 0 0)) (bT n):=by
 subst h;rw [bT,vF];exact aN.Sub.nil
theorem sliceB {ds:List Nat} {x:Operand} {ty:Nat} {y:Operand} {k:IntKind} {n:Int} {m:Nat} (hm:n.toNat=m) (h0:0≤n:=by omega) (hn:m≤ds.length:=by omega):aU prog (.slice 31 x (some y) none none) ty [.one (sB ds), .one (.int k n)] (.one (sB (ds.drop m))):=by
 have:=QY (P:=prog) (T:=31) (x:=x) (y:=y) (ty:=ty) (k:=k) (n:=n) (ts:=rB ds) dW h0 (by rw [bE,hm];exact hn);rw [hm,rB,←List.map_drop] at this;exact this
theorem Yc {ds:List Nat} {x:Operand} {ty:Nat} {y:Operand} {k:IntKind} {n:Int} {m:Nat} (h0:0≤n:=by omega) (hm:n.toNat=m:=by omega) (hn:m≤ds.length:=by omega):aU prog (.slice 31 x none (some y) none) ty [.one (sB ds), .one (.int k n)] (.one (sB (ds.take m))):=by
 have:=QD (P:=prog) (T:=31) (x:=x) (y:=y) (ty:=ty) (k:=k) (n:=n) (ts:=rB ds) dW h0 (by rw [bE,hm];exact hn);rw [hm,rB,←List.map_take] at this;exact this
theorem nN (ds:List Nat) (hd:DB 32768 ds) (hs:ds.length<4611686018427387904:=by omega):aL prog 157 [(.one (sB ds):aI)] (.ret [.one (bT (bv ds))]):=by
 refine bV func157 TT ?_;refine bD {xs:List Nat // DB 32768 xs∧bv xs=bv ds∧xs.length≤ds.length} (fun g=>[.one (sB g.1)]) (fun g=>g.1.length) ⟨ds,hd,rfl,bZ _⟩ aR.rfl (fun _=>rfl) ?_;rintro ⟨xs,hx,hv,hl⟩;dsimp only [aG,aH] at hx hv hl ⊢;apply vn (aW dW (bE _)) rfl;apply vn cB rfl;refine vs _ rfl ?_ ?_<;>intro h3
 ·obtain ⟨d,hget⟩:∃ d,xs[0]? = some d:=⟨_,dS (by omega)⟩
  apply vn (cY dW hget) rfl;apply vn (cV Rh) rfl;dsimp only [aG,aH];apply vn aE rfl;refine vs _ rfl ?_ ?_<;>intro h7
  ·apply vn (sliceB rfl) rfl
   exact aX rfl ⟨⟨xs.drop 1,hx.drop 1,by
    have h7:d=0:=by omega
    rw [←hv,Qv hget,h7,Nat.mul_zero,Nat.add_zero],by show (xs.drop 1).length≤_;rw [List.length_drop];omega⟩,aR.rfl,by show (xs.drop 1).length<xs.length;rw [List.length_drop];omega⟩
  have e:bd (bv ds)=xs:=by
   rw [←hv];refine aA4 hx fun d' h'=>?_;rw [List.head?_eq_getElem?,hget] at h';simp only [aM] at h';subst h';omega
  rw [bT,e];exact aJ rfl
 have e:bd (bv ds)=xs:=by
  have:xs = []:=List.eq_nil_of_length_eq_zero (by omega);rw [←hv,this];exact vF
 rw [bT,e];exact aJ rfl
theorem eQ (s z:Int) (ds:List Nat) (hd:DB 32768 ds) (h1:z.natAbs=bv ds) (h2:bv ds≠0→z.sign=s) (hs:ds.length<4611686018427387904:=by omega):aL prog 114 [(.one (.int .i64 s):aI),(.one (sB ds):aI)] (.ret [zT z]):=by
 refine bV func114 Xn ?_;have hlen:(bd (bv ds)).length=0↔bv ds=0:=by rw [List.length_eq_zero_iff,Bh]
 have hl2:(bd (bv ds)).length≤ds.length:=gO (MY hd);apply aA (nN ds hd hs) rfl;apply vn (aW dW (bE _)) rfl;apply vn aE rfl;refine vs _ rfl ?_ ?_<;>intro h3
 ·have hz:z=0:=by
   have:=hlen.1 (by omega);omega
  subst hz;exact fR ⟨⟨aN.Sub.same,VF rfl,trivial⟩,trivial⟩
 refine aJ ?_;rw [←h2 (fun h=>h3 (by have:=hlen.2 h;omega)),←h1];rfl
theorem KZ {ds:List Nat} {m n:Nat} (hm:m≠0) (h:bv ds+32768^ds.length*m=n) (hn:n<18446744073709551616:=by omega):ds.length≤4:=by
 rcases Nat.lt_or_ge ds.length 5 with h1 | h1
 ·omega
 ·have h2:32768^5≤32768^ds.length:=Nat.pow_le_pow_right (by omega) h1;have h3:32768^ds.length≤32768^ds.length*m:=Nat.le_mul_of_pos_right _ (by omega);omega
theorem sU {ds:List Nat} {m n:Nat} (h:bv ds+32768^ds.length*m=n):bv (m%32768::ds)+32768^(m%32768::ds).length*(m/32768)=n:=by
 rw [uH,List.length_cons,Nat.pow_succ,Nat.add_assoc,Nat.mul_assoc,←Nat.mul_add,Nat.mod_add_div];exact h
theorem neg_tmod {m:Nat}:(-(m:Int)).tmod 32768 = -((m%32768:Nat):Int):=by rw [Int.neg_tmod,Int.tmod_eq_emod_of_nonneg (by omega)];omega
theorem neg_tdiv {m:Nat}:(-(m:Int)).tdiv 32768 = -((m/32768:Nat):Int):=by rw [Int.neg_tdiv,Int.tdiv_eq_ediv_of_nonneg (by omega)];omega
theorem jG (n:Int) (h1:-9223372036854775808≤n:=by omega) (h2:n<9223372036854775808:=by omega):aL prog 59 [(.one (.int .i64 n):aI)] (.ret [zT n]):=by
 refine bV func59 WU ?_;apply vn bA rfl;refine vs _ rfl (fun h1=>?_) (fun h1'=>?_)
 ·refine bD {g:Nat×List Nat // bv g.2+32768^g.2.length*g.1=n.natAbs∧DB 32768 g.2∧g.1≤9223372036854775808∧g.2.length≤5} (fun g=>[.one (.int .i64 (-(g.1.1:Int))), .rows (rB g.1.2)]) (fun g=>g.1.1) ⟨(n.natAbs,[]),by simp [bv,val],Se,by show n.natAbs≤_;omega,by simp⟩ ⟨aI.Sub.of_eq (congrArg (fun q=>aI.one (aN.int .i64 q)) (by show n = -((n.natAbs:Nat):Int);omega)),aI.Sub.same,trivial⟩ (fun _=>rfl) ?_;rintro ⟨⟨m,ds⟩,hv,hd,hm,hl⟩;dsimp only [aG,aH] at hv hd hm hl ⊢;apply vn cS rfl;refine vs _ rfl ?_ ?_<;>intro h4
  ·have hm0:m≠0:=by omega
   have hl4:=KZ hm0 hv
   have hd2:DB 32768 (m%32768::ds):=fun d hd'=>by
    rcases List.mem_cons.1 hd' with rfl | hd'
    ·omega
    ·exact hd d hd'
   apply vn (AL (c:=-((m%32768:Nat):Int)) (by decide) neg_tmod) rfl;apply vn bA rfl;refine vs _ rfl ?_ ?_<;>intro h7
   ·apply vn (HM) rfl;dsimp only [aG,aH];refine uA (us:=rB [m%32768]) (by show [[aN.int .i64 _]] = [[aN.int .i64 _]];congr 3;omega) ?_;refine GB (ts:=rB [m%32768]) (us:=rB ds) (vs:=rB (m%32768::ds)) rfl rfl rfl (by simp;omega) (by simp [maxLen];omega) ?_;apply vn (lI (c:=-((m/32768:Nat):Int)) (by decide) (by rw [neg_tdiv];exact dP)) rfl;dsimp only [aG,aH];exact aX rfl ⟨⟨(m/32768,m%32768::ds),sU hv,hd2,by show m/32768≤_;omega,by show ds.length+1≤5;omega⟩,aR.rfl,by show m/32768<m;omega⟩
   refine uA (us:=rB [m%32768]) (by show [[aN.int .i64 _]] = [[aN.int .i64 _]];congr 3;omega) ?_;refine GB (ts:=rB [m%32768]) (us:=rB ds) (vs:=rB (m%32768::ds)) rfl rfl rfl (by simp;omega) (by simp [maxLen];omega) ?_;apply vn (lI (c:=-((m/32768:Nat):Int)) (by decide) (by rw [neg_tdiv];exact dP)) rfl;dsimp only [aG,aH];exact aX rfl ⟨⟨(m/32768,m%32768::ds),sU hv,hd2,by show m/32768≤_;omega,by show ds.length+1≤5;omega⟩,aR.rfl,by show m/32768<m;omega⟩
  have hm0:m=0:=by omega
  subst hm0;rw [Nat.mul_zero,Nat.add_zero] at hv;apply aA (eQ (-1) n ds hd hv.symm (fun _=>Int.sign_eq_neg_one_of_neg h1)) rfl;exact aJ rfl
 refine bD {g:Nat×List Nat // bv g.2+32768^g.2.length*g.1=n.natAbs∧DB 32768 g.2∧g.1≤9223372036854775808∧g.2.length≤5∧g.1<9223372036854775808} (fun g=>[.one (.int .i64 (g.1.1:Int)), .rows (rB g.1.2)]) (fun g=>g.1.1) ⟨(n.natAbs,[]),by simp [bv,val],Se,by show n.natAbs≤_;omega,by simp,by show n.natAbs<_;omega⟩ ⟨aI.Sub.of_eq (congrArg (fun q=>aI.one (aN.int .i64 q)) (by show n=((n.natAbs:Nat):Int);omega)),aI.Sub.same,trivial⟩ (fun _=>rfl) ?_;rintro ⟨⟨m,ds⟩,hv,hd,hm,hl,hmm⟩;dsimp only [aG,aH] at hv hd hm hl hmm ⊢;apply vn cS rfl;refine vs _ rfl ?_ ?_<;>intro h21
 ·have hm0:m≠0:=by omega
  have hl4:=KZ hm0 hv
  have hd2:DB 32768 (m%32768::ds):=fun d hd'=>by
   rcases List.mem_cons.1 hd' with rfl | hd'
   ·omega
   ·exact hd d hd'
  apply vn (cD) rfl;apply vn bA rfl;refine vs _ rfl ?_ ?_<;>intro h24
  ·exfalso;omega
  refine uA (us:=rB [m%32768]) (by show [[aN.int .i64 _]] = [[aN.int .i64 _]];congr 3) ?_;dsimp only [aG,aH];refine GB (ts:=rB [m%32768]) (us:=rB ds) (vs:=rB (m%32768::ds)) rfl rfl rfl (by simp;omega) (by simp [maxLen];omega) ?_;apply vn (fT) rfl;dsimp only [aG,aH];exact aX rfl ⟨⟨(m/32768,m%32768::ds),sU hv,hd2,by show m/32768≤_;omega,by show ds.length+1≤5;omega,by show m/32768<_;omega⟩,aR.rfl,by show m/32768<m;omega⟩
 have hm0:m=0:=by omega
 subst hm0;rw [Nat.mul_zero,Nat.add_zero] at hv;apply aA (eQ 1 n ds hd hv.symm (fun h=>Int.sign_eq_one_of_pos (by omega))) rfl;exact aJ rfl
theorem Lu {xs ys:List Nat} (hx:DB 32768 xs) {i x y:Nat} (hl:xs.length=ys.length) (hi:xs[i]? = some x) (hj:ys[i]? = some y) (ht:xs.take i=ys.take i) (hxy:x<y:=by omega):bv xs<bv ys:=by
 have e:∀ (zs:List Nat) (z:Nat),zs[i]? = some z→bv zs=bv (zs.take i)*32768^(zs.length-i)+(bv (zs.drop (i+1))+32768^(zs.length-(i+1))*z):=fun zs z hz=>by
  have hlt:i<zs.length:=(fW.1 hz).1
  conv=>lhs;rw [←List.take_append_drop i zs]
  rw [Rb,List.length_drop]
  congr 1
  rw [List.drop_eq_getElem_cons hlt,(fW.1 hz).2,uH,List.length_drop]
 rw [e xs x hi,e ys y hj,ht,hl];have h1:=MY (hx.drop (i+1));rw [List.length_drop,hl] at h1;have h2:32768^(ys.length-(i+1))*(x+1)≤32768^(ys.length-(i+1))*y:=Nat.mul_le_mul_left _ hxy;rw [Nat.mul_add,Nat.mul_one] at h2;omega
theorem pI {a b:Nat} (h:(bd a).length<(bd b).length:=by omega):a<b:=by
 rcases Nat.lt_or_ge a b with h1 | h1
 ·exact h1
 ·have:=eA h1;omega
theorem lG (a b:Nat) (hs:(bd a).length+(bd b).length<1099511627776:=by omega):aL prog 116 [(.one (bT a):aI),(.one (bT b):aI)] (.ret [.one (.int .i64 (eE a b))]):=by
 refine bV func116 TV ?_;apply vn (aW dW (bE _)) rfl;apply vn (aW dW (bE _)) rfl;apply vn cS rfl;refine vs _ rfl ?_ ?_<;>intro h3
 ·apply vn (aW dW (bE _)) rfl;dsimp only [aG,aH];apply vn (aW dW (bE _)) rfl;apply vn bA rfl;refine vs _ rfl ?_ ?_<;>intro h7
  ·rw [oC (by have:=pI (a:=a) (b:=b);omega)];exact aJ rfl
  rw [oK (by have:=pI (a:=b) (b:=a);omega)];exact aJ rfl
 have hlen:(bd a).length=(bd b).length:=by omega
 refine bD {i:Nat // i≤(bd a).length∧(bd a).take i=(bd b).take i} (fun g=>[.one (.int .i64 0), .one (.int .i64 g.1)]) (fun g=>(bd a).length-g.1) ⟨0,eS _,rfl⟩ aR.rfl (fun _=>rfl) ?_;rintro ⟨i,hi,ht⟩;dsimp only [aG,aH] at hi ht ⊢;apply vn (aW dW (bE _)) rfl;apply vn bA rfl;refine vs _ rfl ?_ ?_<;>intro h13
 ·obtain ⟨x,hx⟩:∃ x,(bd a)[i]? = some x:=⟨_,dS (by omega)⟩
  obtain ⟨y,hy⟩:∃ y,(bd b)[i]? = some y:=⟨_,dS (by omega)⟩
  apply vn (cY dW hx) rfl;apply vn (cV Rh) rfl;dsimp only [aG,aH];apply vn (cY dW hy) rfl;apply vn (cV Rh) rfl;apply vn bA rfl;refine vs _ rfl ?_ ?_<;>intro h19
  ·have:=Lu (fV a) hlen hx hy ht;rw [eL,eL] at this;rw [oC (by omega)];exact aJ rfl
  apply vn (cY dW hx) rfl;dsimp only [aG,aH];apply vn (cV Rh) rfl;apply vn (cY dW hy) rfl;apply vn (cV Rh) rfl;apply vn cB rfl;dsimp only [aG,aH];refine vs _ rfl ?_ ?_<;>intro h26
  ·have:=Lu (fV b) hlen.symm hy hx ht.symm;rw [eL,eL] at this;rw [oK (by omega)];exact aJ rfl
  apply vn (aD) rfl;dsimp only [aG,aH];exact aX rfl ⟨⟨i+1,by omega,by rw [take_succ hx,take_succ hy,ht,show x=y by omega]⟩,aR.rfl,by show (bd a).length-(i+1)<(bd a).length-i;omega⟩
 have hie:i=(bd a).length:=by omega
 subst hie
 have e:bd a=bd b:=by
  rw [List.take_length,List.take_of_length_le (by omega)] at ht;exact ht
 have:a=b:=by rw [←eL a,e,eL]
 rw [this,uU];exact aJ rfl
theorem wN (n i:Nat) (hs:(bd n).length<1099511627776:=by omega) (hi:i<4611686018427387904:=by omega):aL prog 160 [(.one (bT n):aI),(.one (.int .i64 i):aI)] (.ret [.one (.int .i64 ((n/32768^i%32768:Nat):Int))]):=by
 refine bV func160 Uj ?_;have hdg:=Lf n i;apply vn (aW dW (bE _)) rfl;apply vn eY rfl;refine vs _ rfl ?_ ?_<;>intro h2
 ·rw [List.getElem?_eq_none_iff.2 (by rw [List.length_reverse];omega)] at hdg;rw [←hdg];exact aJ rfl
 apply vn (aW dW (bE _)) rfl;apply vn (aQ) rfl;dsimp only [aG,aH];apply vn (aQ) rfl;dsimp only [aG,aH];obtain ⟨d,hd⟩:∃ d,(bd n).reverse[i]? = some d:=⟨_,dS (by rw [List.length_reverse];omega)⟩
 have hd2:(bd n)[(bd n).length-1-i]? = some d:=by rw [uL];exact hd
 rw [hd] at hdg;apply vn (cY dW hd2) rfl;apply vn (cV Rh) rfl;dsimp only [aG,aH];rw [←hdg];exact aJ rfl
theorem NJ (a b:Nat):aL prog 159 [(.one (bT a):aI),(.one (bT b):aI)] (.ret [.one (.int .i64 ((max (bd a).length (bd b).length:Nat):Int))]):=by
 refine bV func159 Nt ?_;apply vn (aW dW (bE _)) rfl;apply vn (aW dW (bE _)) rfl;apply vn cB rfl;refine vs _ rfl ?_ ?_<;>intro h3
 ·apply vn (aW dW (bE _)) rfl;dsimp only [aG,aH];refine aJ ?_;show [aI.one (aN.int .i64 _)] = [aI.one (aN.int .i64 _)]
  congr 3;omega
 apply vn (aW dW (bE _)) rfl;dsimp only [aG,aH];refine aJ ?_;show [aI.one (aN.int .i64 _)] = [aI.one (aN.int .i64 _)]
 congr 3;omega
theorem val_rev (n:Nat):val 32768 (bd n).reverse=n:=eL n
theorem LI (n i:Nat):(bd n).reverse[i]?.getD 0=n/32768^i%32768:=Lf n i
set_option maxHeartbeats 1000000 in
theorem iO (a b r:Nat) (k:Int) (hk:k=1∨k = -1) (hs2:(bd b).length<274877906944:=by omega) (hr:(r:Int)=a+k*b:=by omega) (hs:(bd a).length<274877906944:=by omega):aL prog 115 [(.one (bT a):aI),(.one (bT b):aI),(.one (.int .i64 k):aI)] (.ret [.one (bT r)]):=by
 refine bV func115 Xe ?_;obtain ⟨n,hn⟩:∃ n,max (bd a).length (bd b).length+1=n:=⟨_,rfl⟩
 have hrl:r<32768^n:=by
  have h1:=zO a;have h2:=zO b;have h3:32768^(bd a).length≤32768^(n-1):=Nat.pow_le_pow_right (by omega) (by omega);have h4:32768^(bd b).length≤32768^(n-1):=Nat.pow_le_pow_right (by omega) (by omega);have h5:32768^n=32768^(n-1)*32768:=by rw [←Nat.pow_succ];congr 1;omega
  rcases hk with rfl | rfl<;>omega
 apply aA (NJ a b) rfl;apply vn (aD) rfl;dsimp only [aG,aH];refine vP (n:=n) (f:=fun d:Nat=>[aN.int .i64 (d:Int)]) 0 rfl rfl (by omega) rfl (by omega) (by simp only [maxLen];omega) ?_;refine bD {g:Nat×Int×List Nat // Fk 32768 (bd a).reverse (bd b).reverse n k g.1 g.2.1 g.2.2} (fun g=>[.one (.int .i64 g.1.2.1), .one (.int .i64 g.1.1), .rows (rB g.1.2.2.reverse)]) (fun g=>n-g.1.1) ⟨(0,0,List.replicate n 0),Fk.init (by omega) _ _ _ _⟩ ⟨aI.Sub.same,aI.Sub.same,aI.Sub.of_eq (by rw [List.reverse_replicate];rfl),trivial⟩ (fun _=>rfl) ?_;rintro ⟨⟨i,c,os⟩,hI⟩;dsimp only [aG,aH] at hI ⊢;have hil:=hI.le;have hol:=hI.len;have hc0:=hI.c0;have hc1:=hI.c1;apply vn bA rfl;refine vs _ rfl ?_ ?_<;>intro h5
 ·obtain ⟨x,hx⟩:∃ x,a/32768^i%32768=x:=⟨_,rfl⟩
  obtain ⟨y,hy⟩:∃ y,b/32768^i%32768=y:=⟨_,rfl⟩
  have hxB:x<32768:=by rw [←hx];exact Nat.mod_lt _ (by omega)
  have hyB:y<32768:=by rw [←hy];exact Nat.mod_lt _ (by omega)
  have hcall1:=wN a i;have hcall2:=wN b i;rw [hx] at hcall1;rw [hy] at hcall2
  have hnext:∀ (z:Nat) (c':Int),z<32768 → -1≤c'→c'≤1→(z:Int)+32768*c'=x+k*y+c→Fk 32768 (bd a).reverse (bd b).reverse n k (i+1) c' (os.set i z):=fun z c' h1 h2 h3 h4=>
   hI.next (by omega) (by rw [LI,hx]) (by rw [LI,hy]) h2 h3 h1 h4
  have hst:∀ z,os.reverse.set (n-1-i) z=(os.set i z).reverse:=fun z=>by rw [←hol];exact KJ (by omega)
  obtain ⟨o0,hgo⟩:∃ o0,os.reverse[n-1-i]? = some o0:=⟨_,dS (by rw [List.length_reverse];omega)⟩
  have hky:k*y=y∨k*y = -(y:Int):=by rcases hk with rfl | rfl<;>simp
  generalize hkyv:k*(y:Int)=ky at hnext hky;apply aA hcall1 rfl;apply aA hcall2 rfl;apply vn (oV (c:=ky) (by rw [hkyv];exact dP)) rfl;dsimp only [aG,aH];apply vn (aD) rfl;apply vn (aD) rfl;apply vn bA rfl;refine vs _ rfl ?_ ?_<;>intro h12
  ·apply vn (aD) rfl;dsimp only [aG,aH];apply vn eY rfl;refine vs _ rfl ?_ ?_<;>intro h15
   ·exfalso;omega
   apply vn (aQ) rfl;apply vn (aQ) rfl;refine cZ rfl rfl (by omega) (by rw [List.length_reverse];omega) ?_;refine kR (d':=(x+ky+c+32768).toNat) rfl rfl (by omega) (by omega) hgo (by show [aN.int .i64 _] = [aN.int .i64 _];congr 2;omega) ?_;rw [hst];dsimp only [aG,aH];apply vn (aD) rfl;dsimp only [aG,aH];exact aX rfl ⟨⟨(i+1,-1,os.set i (x+ky+c+32768).toNat),hnext _ (-1) (by omega) (by omega) (by omega) (by omega)⟩,aR.rfl,by show n-(i+1)<n-i;omega⟩
  apply vn eY rfl;refine vs _ rfl ?_ ?_<;>intro h30
  ·apply vn (aQ) rfl;apply vn (aQ) rfl;apply vn (aQ) rfl;dsimp only [aG,aH];refine cZ rfl rfl (by omega) (by rw [List.length_reverse];omega) ?_;refine kR (d':=(x+ky+c-32768).toNat) rfl rfl (by omega) (by omega) hgo (by show [aN.int .i64 _] = [aN.int .i64 _];congr 2;omega) ?_;rw [hst];apply vn (aD) rfl;dsimp only [aG,aH];exact aX rfl ⟨⟨(i+1,1,os.set i (x+ky+c-32768).toNat),hnext _ 1 (by omega) (by omega) (by omega) (by omega)⟩,aR.rfl,by show n-(i+1)<n-i;omega⟩
  apply vn (aQ) rfl;apply vn (aQ) rfl;refine cZ rfl rfl (by omega) (by rw [List.length_reverse];omega) ?_;refine kR (d':=(x+ky+c).toNat) rfl rfl (by omega) (by omega) hgo (by show [aN.int .i64 _] = [aN.int .i64 _];congr 2;omega) ?_;rw [hst];apply vn (aD) rfl;dsimp only [aG,aH];exact aX rfl ⟨⟨(i+1,0,os.set i (x+ky+c).toNat),hnext _ 0 (by omega) (by omega) (by omega) (by omega)⟩,aR.rfl,by show n-(i+1)<n-i;omega⟩
 have hie:i=n:=by omega
 subst hie;have hf:=hI.fin (by omega) (by rw [List.length_reverse];omega) (by rw [List.length_reverse];omega) (r:=r) (by rw [val_rev,val_rev];exact hr) hrl;apply aA (nN os.reverse hI.dg.rev (by rw [List.length_reverse];omega)) rfl;dsimp only [aG,aH];refine aJ ?_;rw [←hf,bv,List.reverse_reverse];rfl
open Go Go.Proofs Tryz Ord
theorem uV (z:Int):-1≤z.sign∧z.sign≤1:=by rcases bW z with ⟨_,e⟩ | ⟨_,e⟩ | ⟨_,e⟩<;>omega
theorem KQ (z:Int):aL prog 113 [(zT z:aI)] (.ret [zT (-z)]):=by
 refine bV func113 Xs ?_;have:=uV z;apply vn (HM) rfl;dsimp only [aG,aH];refine aJ ?_;show [aI.agg [.int .i64 (-z.sign),bT z.natAbs]] = [zT (-z)];rw [zT,zC,Int.sign_neg,Int.natAbs_neg]
theorem Oz (z:Int):aL prog 49 [(zT z:aI)] (.ret [zT (z.natAbs:Int)]):=by
 refine bV func49 Yf ?_
 apply vn (oV (c:=((z.natAbs:Nat):Int).sign) (by
  rcases bW z with ⟨h,e⟩ | ⟨h,e⟩ | ⟨h,e⟩<;>rw [e]
  ·rw [Int.sign_eq_one_of_pos (by omega)];exact dP
  ·rw [h];exact dP
  ·rw [Int.sign_eq_one_of_pos (by omega)];exact dP)) rfl
 exact aJ rfl
theorem ag6 {a b:Nat}:(bd (a+b)).length≤max (bd a).length (bd b).length+1:=by
 apply gO;have h1:=zO a;have h2:=zO b;have h3:32768^(bd a).length≤32768^(max (bd a).length (bd b).length):=Nat.pow_le_pow_right (by omega) (by omega);have h4:32768^(bd b).length≤32768^(max (bd a).length (bd b).length):=Nat.pow_le_pow_right (by omega) (by omega);rw [Nat.pow_succ];omega
theorem VJ (x y:Int) (hx:(bd x.natAbs).length<137438953472) (hy:(bd y.natAbs).length<137438953472):aL prog 61 [(zT x:aI),(zT y:aI)] (.ret [zT (x+y)]):=by
 refine bV func61 VO ?_;have hx0:=bW x;have hy0:=bW y
 have hl:∀ n,n≤x.natAbs+y.natAbs→(bd n).length<274877906944:=fun n hn=>by
  have h1:=eA hn;have h2:=ag6 (a:=x.natAbs) (b:=y.natAbs);omega
 apply vn aE rfl;refine vs _ rfl ?_ ?_<;>intro h1
 ·rw [show x=0 by omega,Int.zero_add];exact aJ rfl
 apply vn aE rfl;refine vs _ rfl ?_ ?_<;>intro h4
 ·rw [show y=0 by omega,Int.add_zero];exact aJ rfl
 apply vn aE rfl;refine vs _ rfl ?_ ?_<;>intro h7
 ·apply aA (iO x.natAbs y.natAbs (x.natAbs+y.natAbs) 1 (.inl rfl)) rfl;dsimp only [aG,aH]
  apply aA (eQ x.sign (x+y) _ (fV _) (by rw [eL];omega) (fun _=>by
   rcases hx0 with ⟨h,e⟩ | ⟨h,e⟩ | ⟨h,e⟩
   ·rw [e];exact Int.sign_eq_neg_one_of_neg (by omega)
   ·omega
   ·rw [e];exact Int.sign_eq_one_of_pos (by omega)) (by have:=hl _ (bZ _);omega)) rfl
  exact aJ rfl
 apply aA (lG x.natAbs y.natAbs) rfl;apply vn eY rfl;dsimp only [aG,aH]
 have hci:(0≤eE (x.natAbs:Int) (y.natAbs:Int))↔y.natAbs≤x.natAbs:=by
  have:=nB (a:=(x.natAbs:Int)) (b:=(y.natAbs:Int));omega
 refine vs _ rfl ?_ ?_<;>intro h13
 ·apply aA (iO x.natAbs y.natAbs (x.natAbs-y.natAbs) (-1) (.inr rfl)) rfl
  apply aA (eQ x.sign (x+y) _ (fV _) (by rw [eL];omega) (fun hne=>by
   rw [eL] at hne;rcases hx0 with ⟨h,e⟩ | ⟨h,e⟩ | ⟨h,e⟩
   ·rw [e];exact Int.sign_eq_neg_one_of_neg (by omega)
   ·omega
   ·rw [e];exact Int.sign_eq_one_of_pos (by omega)) (by have:=hl (x.natAbs-y.natAbs) (by omega);omega)) rfl
  exact aJ rfl
 apply aA (iO y.natAbs x.natAbs (y.natAbs-x.natAbs) (-1) (.inr rfl)) rfl
 apply aA (eQ y.sign (x+y) _ (fV _) (by rw [eL];omega) (fun hne=>by
  rw [eL] at hne;rcases hy0 with ⟨h,e⟩ | ⟨h,e⟩ | ⟨h,e⟩
  ·rw [e];exact Int.sign_eq_neg_one_of_neg (by omega)
  ·omega
  ·rw [e];exact Int.sign_eq_one_of_pos (by omega)) (by have:=hl (y.natAbs-x.natAbs) (by omega);omega)) rfl
 exact aJ rfl
theorem PK {n la i:Nat} (h:la=(bd n).length) (hi:i<la:=by omega):∃ d,(bd n)[la-1-i]? = some d∧(bd n).reverse[i]? = some d∧d<32768:=by
 subst h;have hd:(bd n).reverse[i]? = some ((bd n).reverse[i]'(by rw [List.length_reverse];exact hi)):=dS _;exact ⟨_,by rw [uL hi];exact hd,hd,(fV n).rev.get hd⟩
set_option maxHeartbeats 2000000 in
theorem iQ (x y:Int) (hs:(bd x.natAbs).length+(bd y.natAbs).length<274877906944:=by omega):aL prog 54 [(zT x:aI),(zT y:aI)] (.ret [zT (x*y)]):=by
 refine bV func54 WB ?_;obtain ⟨la,hla⟩:∃ n,(bd x.natAbs).length=n:=⟨_,rfl⟩
 obtain ⟨lb,hlb⟩:∃ n,(bd y.natAbs).length=n:=⟨_,rfl⟩
 have hra:(bd x.natAbs).reverse.length=la:=by rw [List.length_reverse,hla]
 have hrb:(bd y.natAbs).reverse.length=lb:=by rw [List.length_reverse,hlb]
 have hsx:=uV x;have hsy:=uV y;apply vn (aW dW (bE _)) rfl;apply vn (aW dW (bE _)) rfl;apply vn (aD) rfl;dsimp only [aG,aH];rw [hla,hlb];refine vP (n:=la+lb) (f:=fun d:Nat=>[aN.int .i64 (d:Int)]) 0 rfl rfl (by omega) rfl (by omega) (by simp only [maxLen];omega) ?_;apply vn (aW dW (bE _)) rfl;apply vn (aQ) rfl;dsimp only [aG,aH];rw [hla];refine bD {g:Nat×List Nat // FL 32768 (bd x.natAbs).reverse (bd y.natAbs).reverse g.1 g.2} (fun g=>[.one (.int .i64 ((la:Int)-1-g.1.1)), .rows (rB g.1.2.reverse)]) (fun g=>la-g.1.1) ⟨(0,List.replicate (la+lb) 0),by have:=FL.init (B:=32768) (by omega) (bd x.natAbs).reverse (bd y.natAbs).reverse;rw [hra,hrb] at this;exact this⟩ ⟨aI.Sub.of_eq (congrArg (fun q=>aI.one (aN.int .i64 q)) (by show (la:Int)-1=(la:Int)-1-((0:Nat):Int);omega)),aI.Sub.of_eq (by rw [List.reverse_replicate];rfl),trivial⟩ (fun _=>rfl) ?_;rintro ⟨⟨i,os⟩,hO⟩;dsimp only [aG,aH] at hO ⊢;have hil:=hO.le;rw [hra] at hil;apply vn eY rfl;refine vs _ rfl ?_ ?_<;>intro h8
 ·apply vn (aW dW (bE _)) rfl;obtain ⟨d,hd1,hd2,hd3⟩:=PK (n:=x.natAbs) (la:=la) (i:=i) hla.symm;dsimp only [aG,aH];apply vn (aQ) rfl;dsimp only [aG,aH];rw [hlb];refine bD {g:Nat×Nat×List Nat // BIn 32768 (bd x.natAbs).reverse (bd y.natAbs).reverse i d (val 32768 ((bd x.natAbs).reverse.take i)*val 32768 (bd y.natAbs).reverse) g.1 g.2.1 g.2.2} (fun g=>[.one (.int .i64 g.1.2.1), .one (.int .i64 ((lb:Int)-1-g.1.1)), .rows (rB g.1.2.2.reverse)]) (fun g=>lb-g.1.1) ⟨(0,0,os),hO.inn (by omega)⟩ ⟨aI.Sub.same,aI.Sub.of_eq (congrArg (fun q=>aI.one (aN.int .i64 q)) (by show (lb:Int)-1=(lb:Int)-1-((0:Nat):Int);omega)),aI.Sub.same,trivial⟩ (fun _=>rfl) ?_;rintro ⟨⟨k,c,os2⟩,hI⟩;dsimp only [aG,aH] at hI ⊢;have hkl:=hI.le;have hol:=hI.len;have hc1:=hI.c1;rw [hrb] at hkl;rw [hra,hrb] at hol;apply vn eY rfl;refine vs _ rfl ?_ ?_<;>intro h13
  ·apply vn (aD) rfl;apply vn (aD) rfl;dsimp only [aG,aH];obtain ⟨e,he1,he2,he3⟩:=PK (n:=y.natAbs) (la:=lb) (i:=k) hlb.symm;obtain ⟨o,ho2⟩:∃ o,os2[i+k]? = some o:=⟨_,dS (by omega)⟩
   have ho1:os2.reverse[la+lb-1-(i+k)]? = some o:=by
    have:=uL (ds:=os2.reverse) (i:=i+k) (by rw [List.length_reverse];omega);rw [List.reverse_reverse,List.length_reverse,hol] at this;rw [this];exact ho2
   have hoB:=hI.dg.get ho2;have hde:d*e≤32767*32767:=Nat.mul_le_mul (by omega) (by omega);have hst:∀ z,os2.reverse.set (la+lb-1-(i+k)) z=(os2.set (i+k) z).reverse:=fun z=>by rw [←hol];exact KJ (by omega)
   obtain ⟨w,hw⟩:∃ w,c+(d*e+o)=w:=⟨_,rfl⟩
   have hN:=hI.next (z:=w%32768) (c':=w/32768) (by rw [hrb];omega) he2 ho2 (by omega) (by omega) (by omega);refine cZ rfl rfl (by omega) (by rw [List.length_reverse];omega) ?_;refine mJ rfl rfl (by omega) (by omega) ho1 rfl ?_;apply vn (cY dW hd1) rfl;apply vn (cV Rh) rfl;apply vn (cY dW he1) rfl;dsimp only [aG,aH];apply vn (cV Rh) rfl;apply vn (oV (c:=((d*e:Nat):Int)) (by rw [←Int.natCast_mul];exact dP)) rfl;apply vn (aD) rfl;dsimp only [aG,aH];apply vn (dV (c:=(w:Int)) (by rw [show (o:Int)+((d*e:Nat):Int)+(c:Int)=(w:Int) by omega];exact dP)) rfl;apply vn (aD) rfl;apply vn (aD) rfl;apply vn (cD) rfl;dsimp only [aG,aH];refine cZ rfl rfl (by omega) (by rw [List.length_reverse];omega) ?_;refine kR (d':=w%32768) rfl rfl (by omega) (by omega) ho1 rfl ?_;rw [hst];apply vn (fT) rfl;apply vn (aQ) rfl;dsimp only [aG,aH];exact aX rfl ⟨⟨(k+1,w/32768,os2.set (i+k) (w%32768)),hN⟩,⟨aI.Sub.same,aI.Sub.of_eq (congrArg (fun q=>aI.one (aN.int .i64 q)) (by show (lb:Int)-1-(k:Int)-1=(lb:Int)-1-((k+1:Nat):Int);omega)),aI.Sub.same,trivial⟩,by show lb-(k+1)<lb-k;omega⟩
  have hke:k=lb:=by omega
  subst hke;obtain ⟨o,ho2⟩:∃ o,os2[i+k]? = some o:=⟨_,dS (by omega)⟩
  have ho1:os2.reverse[la+k-1-(i+k)]? = some o:=by
   have:=uL (ds:=os2.reverse) (i:=i+k) (by rw [List.length_reverse];omega);rw [List.reverse_reverse,List.length_reverse,hol] at this;rw [this];exact ho2
  have hst:∀ z,os2.reverse.set (la+k-1-(i+k)) z=(os2.set (i+k) z).reverse:=fun z=>by rw [←hol];exact KJ (by omega)
  have hN:FL 32768 (bd x.natAbs).reverse (bd y.natAbs).reverse (i+1) (os2.set (i+k) c):=by
   have:=hI;rw [←hrb] at this ⊢;exact this.out hd2
  refine cZ rfl rfl (by omega) (by rw [List.length_reverse];omega) ?_;refine kR (d':=c) rfl rfl (by omega) (by omega) ho1 rfl ?_;rw [hst];apply vn (aQ) rfl;dsimp only [aG,aH];exact aX rfl ⟨⟨(i+1,os2.set (i+k) c),hN⟩,⟨aI.Sub.of_eq (congrArg (fun q=>aI.one (aN.int .i64 q)) (by show (la:Int)-1-(i:Int)-1=(la:Int)-1-((i+1:Nat):Int);omega)),aI.Sub.same,trivial⟩,by show la-(i+1)<la-i;omega⟩
 have hie:i=la:=by omega
 subst hie
 have hf:val 32768 os=x.natAbs*y.natAbs:=by
  have:=hO;rw [←hra] at this;have:=this.fin;rw [val_rev,val_rev] at this;exact this
 have hol:=hO.len;rw [hra,hrb] at hol;have hmul:x.sign*y.sign=(x*y).sign:=(Int.sign_mul x y).symm;have hsb:=uV (x*y);apply vn (oV (c:=(x*y).sign) (by rw [hmul];exact dP)) rfl;apply aA (eQ (x*y).sign (x*y) os.reverse hO.dg.rev (by rw [bv,List.reverse_reverse,hf,Int.natAbs_mul]) (fun _=>rfl) (by rw [List.length_reverse];omega)) rfl;exact aJ rfl
open Go Go.Proofs Tryz Ord
def YW:Tr:=.back 0 [lV 10 0,lV 11 0]
def aw1:Tr:=.split (.u 5 0) (aO .mul 3 14 32768 3 0 3 (aO .sub 3 17 1 1 0 3 (bG .sub 3 18 19 7 0 4 0 3 (aC 160 [(W 0 0),(W 8 0)] [none] [16,20] [31,3] 3 true (bG .add 3 15 21 6 0 9 0 3 (aO .add 3 12 1 4 0 3 YW)))))) (.ret [(W 3 0)])
def aI4:Tr:=.loop 0 [lK 0,lK 0] (bG .lss 3 9 10 4 0 2 0 4 aw1)
theorem Vv:aK prog f190 (fun _=>none) [.v none, .v none, .v none]=aI4:=by kernel_rfl
def al4:Tr:=.loop 0 [lV 14 0,lV 10 0] (aC 116 [(W 15 0),(W 1 0)] [none] [46,47] [31,31] 3 true (aO .geq 3 48 0 17 0 4 (.split (.u 18 0) (.need (.call 115 [(W 15 0),(W 1 0),(WK (-1))] [none]) (.call ⟨.value (.func 115),#[(tT 50),(tT 51),(.const (I3 (-1)))],#[31,31,3]⟩) 31 true (aO .add 3 53 1 16 0 3 (.back 0 [lV 19 0,lV 20 0]))) (.ret [(W 16 0),(W 15 0)]))))
def ZT:Tr:=.loop 0 [lV 0 0,lV 10 0] (aC 116 [(W 12 0),(W 1 0)] [none] [46,47] [31,31] 3 true (aO .geq 3 48 0 14 0 4 (.split (.u 15 0) (.need (.call 115 [(W 12 0),(W 1 0),(WK (-1))] [none]) (.call ⟨.value (.func 115),#[(tT 50),(tT 51),(.const (I3 (-1)))],#[31,31,3]⟩) 31 true (aO .add 3 53 1 13 0 3 (.back 0 [lV 16 0,lV 17 0]))) (.ret [(W 13 0),(W 12 0)]))))
def Vc:Tr:=aO .gtr 3 36 0 10 0 4 (.split (.u 11 0) (aC 59 [(W 10 0)] [(some 2)] [39] [2] 33 false (aC 54 [(G2 12),(.agg [(tE (.int .i64 1)),(U 1 0)])] [(some 2)] [40,42] [33,33] 33 true (.need (.call 115 [(W 0 0),(W 13 1),(WK (-1))] [none]) (.call ⟨.value (.func 115),#[(tT 38),(tT 44),(.const (I3 (-1)))],#[31,31,3]⟩) 31 true al4))) ZT)
def aG1:Tr:=aO .leq 3 14 3 2 0 4 (.split (.u 5 0) (aO .add 3 17 1 2 0 3 (aO .add 3 19 1 2 0 3 (aC 190 [(W 0 0),(W 6 0),(W 7 0)] [none] [16,18,20] [31,3,3] 3 false (aC 190 [(W 1 0),(W 2 0),(W 2 0)] [none] [22,23,24] [31,3,3] 3 true (bG .quo 3 21 25 8 0 9 0 3 Vc))))) (aO .add 3 28 1 2 0 3 (.need (.call 190 [(W 0 0),(W 6 0),(WK 4)] [none]) (.call ⟨.value (.func 190),#[(tT 27),(tT 29),(.const (I3 4))],#[31,3,3]⟩) 3 false (.need (.call 190 [(W 1 0),(W 2 0),(WK 3)] [none]) (.call ⟨.value (.func 190),#[(tT 31),(tT 32),(.const (I3 3))],#[31,3,3]⟩) 3 false (aO .add 3 33 1 8 0 3 (bG .quo 3 30 34 7 0 9 0 3 Vc))))))
def af6:Tr:=.loop 0 [lV 8 0,lK 0] (aC 116 [(W 9 0),(W 1 0)] [none] [46,47] [31,31] 3 true (aO .geq 3 48 0 11 0 4 (.split (.u 12 0) (.need (.call 115 [(W 9 0),(W 1 0),(WK (-1))] [none]) (.call ⟨.value (.func 115),#[(tT 50),(tT 51),(.const (I3 (-1)))],#[31,31,3]⟩) 31 true (aO .add 3 53 1 10 0 3 (.back 0 [lV 13 0,lV 14 0]))) (.ret [(W 10 0),(W 9 0)]))))
def aa3:Tr:=.split (.u 5 0) (aC 59 [(WK 0)] [(some 2)] [39] [2] 33 false (aC 54 [(G2 6),(.agg [(tE (.int .i64 1)),(U 1 0)])] [(some 2)] [40,42] [33,33] 33 true (.need (.call 115 [(W 0 0),(W 7 1),(WK (-1))] [none]) (.call ⟨.value (.func 115),#[(tT 38),(tT 44),(.const (I3 (-1)))],#[31,31,3]⟩) 31 true af6))) (.loop 0 [lV 0 0,lK 0] (aC 116 [(W 6 0),(W 1 0)] [none] [46,47] [31,31] 3 true (aO .geq 3 48 0 8 0 4 (.split (.u 9 0) (.need (.call 115 [(W 6 0),(W 1 0),(WK (-1))] [none]) (.call ⟨.value (.func 115),#[(tT 50),(tT 51),(.const (I3 (-1)))],#[31,31,3]⟩) 31 true (aO .add 3 53 1 7 0 3 YW)) (.ret [(W 7 0),(W 6 0)])))))
def aI9:Tr:=dH 1 0 8 31 (dH 0 0 10 31 (bG .geq 3 11 12 3 0 2 0 4 (.split (.u 4 0) aG1 (.need (.prim [(WK 0),(WK 0)] none) (.binOp .gtr 3 (tT 36) (.const (I3 0)) 3) 4 false aa3))))
theorem Sn:aK prog f158 (fun _=>none) [.v none, .v none]=aI9:=by kernel_rfl
def ag0:Tr:=.need (.app 1 8 (some 17) none (some 20)) (.call ⟨.builtin .append,#[(tT 33),(tT 38)],#[31,31]⟩) 31 false (aC 157 [(.one (.c (.sr 1 21)))] [none] [39] [31] 31 true (aC 158 [(W 22 0),(W 1 0)] [none,none] [42,43] [31,31] 184 false (.need (.lit 1 [[(.u 23 0)]]) (.buildSlice 31 1 #[(0,(tT 48))]) 31 false (.need (.app 1 8 (some 14) none (some 25)) (.call ⟨.builtin .append,#[(tT 47),(tT 49)],#[31,31]⟩) 31 false (aO .add 3 30 1 13 0 3 (.back 0 [lV 24 0,lV 27 0, .row 26]))))))
def ZQ:Tr:=dH 0 0 27 31 (bG .lss 3 26 28 13 0 15 0 4 (.split (.u 16 0) (.need (.app 1 8 none (some (.u 12 0)) none) (.call ⟨.builtin .append,#[(.const (.slice none 0 0)),(tT 32)],#[31,31]⟩) 31 false (mB 0 0 13 0 31 34 35 (mN 18 0 none 3 36 (.need (.lit 1 [[(.u 19 0)]]) (.buildSlice 31 1 #[(0,(tT 37))]) 31 false ag0)))) (aC 157 [(.one (.c (.sr 1 14)))] [none] [51] [31] 31 false (.ret [(W 17 0),(W 12 0)]))))
def aC4:Tr:=aO .sub 3 18 1 5 0 3 (.need (.prim [(W 0 0),(W 6 0)] none) (.slice 31 (tT 16) none (some (tT 19)) none) 31 false (.need (.app 1 8 none (some (.u 7 0)) none) (.call ⟨.builtin .append,#[(.const (.slice none 0 0)),(tT 20)],#[31,31]⟩) 31 false (aC 157 [(.one (.c (.sr 1 8)))] [none] [21] [31] 31 true (dH 1 0 23 31 (aO .sub 3 24 1 10 0 3 (.loop 0 [lV 9 0,lV 11 0, .nilrow] ZQ))))))
def az8:Tr:=dH 0 0 10 31 (dH 1 0 12 31 (bG .lss 3 11 13 2 0 3 0 4 (.split (.u 4 0) (.ret [(.one (.c (.k (.slice none 0 0)))),(W 0 0)]) (dH 1 0 17 31 aC4))))
theorem XX:aK prog f111 (fun _=>none) [.v none, .v none]=az8:=by kernel_rfl
def av2:Tr:=.split (.u 4 0) (aO .mul 3 11 32768 1 0 3 (mB 0 0 2 0 31 13 14 (mN 6 0 none 3 15 (bG .add 3 12 16 5 0 7 0 3 (aO .add 3 9 1 2 0 3 (.back 0 [lV 8 0,lV 9 0])))))) NX
def aB2:Tr:=.loop 0 [lK 0,lK 0] (dH 0 0 6 31 (bG .lss 3 5 7 2 0 3 0 4 av2))
theorem Rk:aK prog f112 (fun _=>none) [.v none]=aB2:=by kernel_rfl
def ak1:Tr:=aC 112 [(W 2 0)] [none] [26] [31] 3 false (aC 112 [(W 3 0)] [none] [28] [31] 3 true (.loop 1 [lV 12 0,lV 13 0] (aO .neq 3 30 0 15 0 4 (.split (.u 16 0) (bG .rem 3 33 34 14 0 15 0 3 (.back 1 [lV 15 0,lV 17 0])) (aC 59 [(W 14 0)] [(some 2)] [36] [2] 33 true (.ret [(G2 17)]))))))
def aH2:Tr:=aO .leq 3 19 4 8 0 4 (.split (.u 9 0) (dH 3 0 22 31 (aO .leq 3 23 4 10 0 4 (.split (.u 11 0) ak1 (aC 111 [(W 2 0),(W 3 0)] [none,none] [39,40] [31,31] 143 false (.back 0 [lV 3 0,lV 13 0,lV 4 0,lV 5 0]))))) (aC 111 [(W 2 0),(W 3 0)] [none,none] [39,40] [31,31] 143 false (.back 0 [lV 3 0,lV 11 0,lV 4 0,lV 5 0])))
def at2:Tr:=.loop 0 [lV 0 1,lV 1 1,lK 0,lN] (dH 3 0 15 31 (aO .gtr 3 16 0 6 0 4 (.split (.u 7 0) (dH 2 0 18 31 aH2) (.need (.call 114 [(WK 1),(W 2 0)] [(some 2)]) (.call ⟨.value (.func 114),#[(.const (I3 1)),(tT 46)],#[3,31]⟩) 33 true NM))))
theorem WG:aK prog f140 (fun _=>none) [.v (some 2), .v (some 2)]=at2:=by kernel_rfl
theorem Nd {m long i:Nat} (h:i<long:=by omega):m/32768^(long-i)*32768+m/32768^(long-1-i)%32768=m/32768^(long-(i+1)):=by
 have e:m/32768^(long-i)=m/32768^(long-(i+1))/32768:=by
  rw [Nat.div_div_eq_div_mul,←Nat.pow_succ];congr 2;omega
 rw [e,show long-1-i=long-(i+1) by omega];have:=Nat.div_add_mod (m/32768^(long-(i+1))) 32768;omega
theorem qF {m long i:Nat} (h:i≤long) (hm:m<32768^long):m/32768^(long-i)<32768^i:=by
 rw [Nat.div_lt_iff_lt_mul (Nat.pow_pos (by omega)),←Nat.pow_add,show i+(long-i)=long by omega];exact hm
theorem On {i:Nat} (h:i≤4:=by omega):32768^i≤1152921504606846976:=by
 have:=Nat.pow_le_pow_right (n:=32768) (by omega) h;rw [show (32768:Nat)^4=1152921504606846976 by decide] at this;exact this
theorem qR (m long k:Nat) (hm:m<32768^long) (hk:k≤long:=by omega) (hk4:k≤4:=by omega) (hl:long<1099511627776:=by omega) (hs:(bd m).length<1099511627776:=by omega):aL prog 190 [(.one (bT m):aI),(.one (.int .i64 long):aI),(.one (.int .i64 k):aI)] (.ret [.one (.int .i64 ((m/32768^(long-k):Nat):Int))]):=by
 refine bV func190 Vv ?_;refine bD {i:Nat // i≤k} (fun g=>[.one (.int .i64 ((m/32768^(long-g.1):Nat):Int)), .one (.int .i64 g.1)]) (fun g=>k-g.1) ⟨0,eS _⟩ ⟨aI.Sub.of_eq (congrArg (fun q:Nat=>aI.one (aN.int .i64 (q:Int))) (by show 0=m/32768^long;rw [Nat.div_eq_of_lt hm])),aI.Sub.same,trivial⟩ (fun _=>rfl) ?_;rintro ⟨i,hi⟩;dsimp only [aG,aH] at hi ⊢;apply vn bA rfl;refine vs _ rfl ?_ ?_<;>intro h2
 ·have hx:=qF (m:=m) (i:=i) (long:=long) (by omega) hm;have hp:=On (i:=i);have hstep:=Nd (m:=m) (long:=long) (i:=i);have hlt:=qF (m:=m) (i:=i+1) (long:=long) (by omega) hm;have hp2:=On (i:=i+1);generalize m/32768^(long-i)=x at *;generalize hy:m/32768^(long-(i+1))=y at *;apply vn (bR) rfl;apply vn (aQ) rfl;dsimp only [aG,aH];apply vn (jC (c:=((long-1-i:Nat):Int)) (by rw [show ((long:Int)-1-(i:Int))=((long-1-i:Nat):Int) by omega];exact dP)) rfl;apply aA (wN m (long-1-i) hs) rfl;generalize m/32768^(long-1-i)%32768=d at *;dsimp only [aG,aH];apply vn (dV (c:=(y:Int)) (by rw [show (x:Int)*32768+(d:Int)=(y:Int) by omega];exact dP)) rfl;apply vn (aD) rfl;dsimp only [aG,aH];exact aX rfl ⟨⟨i+1,by omega⟩,⟨aI.Sub.of_eq (congrArg (fun q:Nat=>aI.one (aN.int .i64 (q:Int))) hy.symm),aI.Sub.same,trivial⟩,by show k-(i+1)<k-i;omega⟩
 rw [show k=i by omega];exact aJ rfl
theorem NU {d:Nat} (h:0<d):zT (d:Int) = .agg [.int .i64 1,bT d]:=by
 rw [zT,zC,Int.sign_eq_one_of_pos (by omega)];rfl
theorem Ut {r d m:Nat}:r/32768^m/(d/32768^m+1)*d≤r:=by
 have hp:0<32768^m:=Nat.pow_pos (by omega)
 have h1:d≤(d/32768^m+1)*32768^m:=by
  rw [Nat.mul_comm];exact Nat.le_of_lt (Nat.lt_mul_div_succ d hp)
 calc r/32768^m/(d/32768^m+1)*d≤r/32768^m/(d/32768^m+1)*((d/32768^m+1)*32768^m):=Nat.mul_le_mul_left _ h1
  _=r/32768^m/(d/32768^m+1)*(d/32768^m+1)*32768^m:=(Nat.mul_assoc _ _ _).symm
  _≤r/32768^m*32768^m:=Nat.mul_le_mul_right _ (Nat.div_mul_le_self _ _)
  _≤r:=Nat.div_mul_le_self _ _
set_option maxHeartbeats 2000000 in
theorem Vo (r d:Nat) (hd:0<d) (hr:r<d*32768) (hs:(bd d).length<34359738368:=by omega):aL prog 158 [(.one (bT r):aI),(.one (bT d):aI)] (.ret [.one (.int .i64 ((r/d:Nat):Int)), .one (bT (r%d))]):=by
 refine bV func158 Sn ?_;have hdl:=zO d
 have hrl:r<32768^((bd d).length+1):=by
  rw [Nat.pow_succ];exact Nat.lt_trans hr (Nat.mul_lt_mul_of_pos_right hdl (by omega))
 have hrs:=gO hrl;have hle:∀ q,q≤r→(bd q).length≤(bd d).length+1:=fun q hq=>Nat.le_trans (eA hq) hrs
 have hdn:0<(bd d).length:=by
  rcases Nat.eq_zero_or_pos (bd d).length with h | h
  ·have:=Bh.1 (List.eq_nil_of_length_eq_zero h);omega
  ·exact h
 have hqB:r/d<32768:=by rw [Nat.div_lt_iff_lt_mul hd,Nat.mul_comm];exact hr
 have hkd:∀ k,k*d≤r→k<32768:=fun k hk=>by
  have:k≤r/d:=by rw [Nat.le_div_iff_mul_le hd];exact hk
  omega
 have hfin:∀ r' k,r'+k*d=r→r'<d→k=r/d∧r'=r%d:=fun r' k h1 h2=>sK (by rw [←h1,Nat.mul_comm]) h2
 have hah:∀ r':Nat,(0≤eE (r':Int) (d:Int))↔d≤r':=fun r'=>by
  have:=nB (a:=(r':Int)) (b:=(d:Int));omega
 apply vn (aW dW (bE _)) rfl;apply vn (aW dW (bE _)) rfl;apply vn eY rfl;refine vs _ rfl ?_ ?_<;>intro h3
 ·apply vn gE rfl;dsimp only [aG,aH];refine vs _ rfl ?_ ?_<;>intro h5
  ·apply vn (aD) rfl;apply vn (aD) rfl;apply aA (qR r ((bd d).length+1) ((bd d).length+1) hrl (bZ _)) rfl;rw [Nat.sub_self,Nat.pow_zero,Nat.div_one];apply aA (qR d (bd d).length (bd d).length hdl (bZ _)) rfl;rw [Nat.sub_self,Nat.pow_zero,Nat.div_one];dsimp only [aG,aH];obtain ⟨k,hk⟩:∃ k,r/d=k:=⟨_,rfl⟩
   have hk1:k*d≤r:=by rw [←hk];exact Nat.div_mul_le_self _ _
   have hk2:=hkd k hk1;apply vn (lI (c:=(k:Int)) (by omega) (by rw [Int.tdiv_eq_ediv_of_nonneg (kJ _),←Int.natCast_ediv,hk];exact dP)) rfl;apply vn cB rfl;refine vs _ rfl ?_ ?_<;>intro h12
   ·have hm:=iQ (k:Int) (d:Int) (by
     rw [Int.natAbs_natCast,Int.natAbs_natCast];have:(bd k).length≤1:=gO (by omega);omega)
    rw [NU hd,show (k:Int)*(d:Int)=((k*d:Nat):Int) by rw [Int.natCast_mul]] at hm;apply aA (jG k) rfl;apply aA hm rfl;dsimp only [aG,aH];apply aA (iO r (k*d) (r-k*d) (-1) (.inr rfl) (by have:=hle _ hk1;omega)) rfl;dsimp only [aG,aH];refine bD {g:Nat×Nat // g.1+g.2*d=r} (fun g=>[.one (bT g.1.1), .one (.int .i64 g.1.2)]) (fun g=>g.1.1) ⟨(r-k*d,k),by show r-k*d+k*d=r;omega⟩ aR.rfl (fun _=>rfl) ?_;rintro ⟨⟨r',k'⟩,hg⟩;dsimp only [aG,aH] at hg ⊢;have hk3:=hkd k' (by omega);have hr3:=hle r' (by omega);apply aA (lG r' d) rfl;apply vn eY rfl;refine vs _ rfl ?_ ?_<;>intro h19
    ·have hdr:d≤r':=(hah r').1 (by assumption);apply aA (iO r' d (r'-d) (-1) (.inr rfl)) rfl;apply vn (aD) rfl;dsimp only [aG,aH];exact aX rfl ⟨⟨(r'-d,k'+1),by show r'-d+(k'+1)*d=r;rw [Nat.add_mul];omega⟩,aR.rfl,by show r'-d<r';omega⟩
    have hdr:r'<d:=by
     rcases Nat.lt_or_ge r' d with h | h
     ·exact h
     ·exact absurd ((hah r').2 h) (by assumption)
    obtain ⟨e1,e2⟩:=hfin r' k' hg hdr;rw [←e1,←e2];exact aJ rfl
   refine bD {g:Nat×Nat // g.1+g.2*d=r} (fun g=>[.one (bT g.1.1), .one (.int .i64 g.1.2)]) (fun g=>g.1.1) ⟨(r,0),by omega⟩ ⟨aI.Sub.same,aI.Sub.of_eq (congrArg (fun q:Nat=>aI.one (aN.int .i64 (q:Int))) (by show k=0;omega)),trivial⟩ (fun _=>rfl) ?_;rintro ⟨⟨r',k'⟩,hg⟩;dsimp only [aG,aH] at hg ⊢;have hk3:=hkd k' (by omega);have hr3:=hle r' (by omega);apply aA (lG r' d) rfl;apply vn eY rfl;refine vs _ rfl ?_ ?_<;>intro h27
   ·have hdr:d≤r':=(hah r').1 (by assumption);apply aA (iO r' d (r'-d) (-1) (.inr rfl)) rfl;apply vn (aD) rfl;dsimp only [aG,aH];exact aX rfl ⟨⟨(r'-d,k'+1),by show r'-d+(k'+1)*d=r;rw [Nat.add_mul];omega⟩,aR.rfl,by show r'-d<r';omega⟩
   have hdr:r'<d:=by
    rcases Nat.lt_or_ge r' d with h | h
    ·exact h
    ·exact absurd ((hah r').2 h) (by assumption)
   obtain ⟨e1,e2⟩:=hfin r' k' hg hdr;rw [←e1,←e2];exact aJ rfl
  apply vn (aD) rfl;apply aA (qR r ((bd d).length+1) 4 hrl) rfl;apply aA (qR d (bd d).length 3 hdl) rfl;rw [show (bd d).length+1-4=(bd d).length-3 by omega];have hd3:=qF (m:=d) (long:=(bd d).length) (i:=3) (by omega) hdl;have hr4:=qF (m:=r) (long:=(bd d).length+1) (i:=4) (by omega) hrl;rw [show (bd d).length+1-4=(bd d).length-3 by omega] at hr4;have hp3:=On (i:=3);have hp4:=On (i:=4);have hk1:=Ut (r:=r) (d:=d) (m:=(bd d).length-3);generalize r/32768^((bd d).length-3)=rt at *;generalize d/32768^((bd d).length-3)=dt at *;obtain ⟨k,hk⟩:∃ k,rt/(dt+1)=k:=⟨_,rfl⟩
  rw [hk] at hk1;have hk2:=hkd k hk1;apply vn (aD) rfl;dsimp only [aG,aH];apply vn (lI (c:=(k:Int)) (by omega) (by rw [Int.tdiv_eq_ediv_of_nonneg (kJ _),show ((dt:Int)+1)=((dt+1:Nat):Int) by omega,←Int.natCast_ediv,hk];exact dP)) rfl;apply vn cB rfl;refine vs _ rfl ?_ ?_<;>intro h38
  ·have hm:=iQ (k:Int) (d:Int) (by
    rw [Int.natAbs_natCast,Int.natAbs_natCast];have:(bd k).length≤1:=gO (by omega);omega)
   rw [NU hd,show (k:Int)*(d:Int)=((k*d:Nat):Int) by rw [Int.natCast_mul]] at hm;apply aA (jG k) rfl;apply aA hm rfl;dsimp only [aG,aH];apply aA (iO r (k*d) (r-k*d) (-1) (.inr rfl) (by have:=hle _ hk1;omega)) rfl;dsimp only [aG,aH];refine bD {g:Nat×Nat // g.1+g.2*d=r} (fun g=>[.one (bT g.1.1), .one (.int .i64 g.1.2)]) (fun g=>g.1.1) ⟨(r-k*d,k),by show r-k*d+k*d=r;omega⟩ aR.rfl (fun _=>rfl) ?_;rintro ⟨⟨r',k'⟩,hg⟩;dsimp only [aG,aH] at hg ⊢;have hk3:=hkd k' (by omega);have hr3:=hle r' (by omega);apply aA (lG r' d) rfl;apply vn eY rfl;refine vs _ rfl ?_ ?_<;>intro h45
   ·have hdr:d≤r':=(hah r').1 (by assumption);apply aA (iO r' d (r'-d) (-1) (.inr rfl)) rfl;apply vn (aD) rfl;dsimp only [aG,aH];exact aX rfl ⟨⟨(r'-d,k'+1),by show r'-d+(k'+1)*d=r;rw [Nat.add_mul];omega⟩,aR.rfl,by show r'-d<r';omega⟩
   have hdr:r'<d:=by
    rcases Nat.lt_or_ge r' d with h | h
    ·exact h
    ·exact absurd ((hah r').2 h) (by assumption)
   obtain ⟨e1,e2⟩:=hfin r' k' hg hdr;rw [←e1,←e2];exact aJ rfl
  refine bD {g:Nat×Nat // g.1+g.2*d=r} (fun g=>[.one (bT g.1.1), .one (.int .i64 g.1.2)]) (fun g=>g.1.1) ⟨(r,0),by omega⟩ ⟨aI.Sub.same,aI.Sub.of_eq (congrArg (fun q:Nat=>aI.one (aN.int .i64 (q:Int))) (by show k=0;omega)),trivial⟩ (fun _=>rfl) ?_;rintro ⟨⟨r',k'⟩,hg⟩;dsimp only [aG,aH] at hg ⊢;have hk3:=hkd k' (by omega);have hr3:=hle r' (by omega);apply aA (lG r' d) rfl;apply vn eY rfl;refine vs _ rfl ?_ ?_<;>intro h53
  ·have hdr:d≤r':=(hah r').1 (by assumption);apply aA (iO r' d (r'-d) (-1) (.inr rfl)) rfl;apply vn (aD) rfl;dsimp only [aG,aH];exact aX rfl ⟨⟨(r'-d,k'+1),by show r'-d+(k'+1)*d=r;rw [Nat.add_mul];omega⟩,aR.rfl,by show r'-d<r';omega⟩
  have hdr:r'<d:=by
   rcases Nat.lt_or_ge r' d with h | h
   ·exact h
   ·exact absurd ((hah r').2 h) (by assumption)
  obtain ⟨e1,e2⟩:=hfin r' k' hg hdr;rw [←e1,←e2];exact aJ rfl
 apply vn cB rfl;refine vs _ rfl ?_ ?_<;>intro h59
 ·exfalso;omega
 refine bD {g:Nat×Nat // g.1+g.2*d=r} (fun g=>[.one (bT g.1.1), .one (.int .i64 g.1.2)]) (fun g=>g.1.1) ⟨(r,0),by omega⟩ aR.rfl (fun _=>rfl) ?_;rintro ⟨⟨r',k'⟩,hg⟩;dsimp only [aG,aH] at hg ⊢;have hk3:=hkd k' (by omega);have hr3:=hle r' (by omega);apply aA (lG r' d) rfl;apply vn eY rfl;refine vs _ rfl ?_ ?_<;>intro h74
 ·have hdr:d≤r':=(hah r').1 (by assumption);apply aA (iO r' d (r'-d) (-1) (.inr rfl)) rfl;apply vn (aD) rfl;dsimp only [aG,aH];exact aX rfl ⟨⟨(r'-d,k'+1),by show r'-d+(k'+1)*d=r;rw [Nat.add_mul];omega⟩,aR.rfl,by show r'-d<r';omega⟩
 have hdr:r'<d:=by
  rcases Nat.lt_or_ge r' d with h | h
  ·exact h
  ·exact absurd ((hah r').2 h) (by assumption)
 obtain ⟨e1,e2⟩:=hfin r' k' hg hdr;rw [←e1,←e2];exact aJ rfl
set_option maxHeartbeats 1000000 in
theorem gY (a d:Nat) (hd:0<d:=by omega) (hs:(bd a).length+(bd d).length<34359738368:=by omega):aL prog 111 [(.one (bT a):aI),(.one (bT d):aI)] (.ret [.one (bT (a/d)), .one (bT (a%d))]):=by
 refine bV func111 XX ?_
 have hdn:0<(bd d).length:=by
  rcases Nat.eq_zero_or_pos (bd d).length with h | h
  ·have:=Bh.1 (List.eq_nil_of_length_eq_zero h);omega
  ·exact h
 apply vn (aW dW (bE _)) rfl;apply vn (aW dW (bE _)) rfl;apply vn bA rfl;refine vs _ rfl ?_ ?_<;>intro h3
 ·have had:=pI (a:=a) (b:=d);refine fR ⟨VF (Nat.div_eq_of_lt had),?_,trivial⟩;rw [Nat.mod_eq_of_lt had];exact aN.Sub.same
 apply vn (aW dW (bE _)) rfl;dsimp only [aG,aH];apply vn (aQ) rfl;apply vn (Yc (m:=(bd d).length-1)) rfl;refine GB (ts:=[]) (us:=rB ((bd a).take ((bd d).length-1))) (vs:=rB ((bd a).take ((bd d).length-1))) rfl (.inr aN.Sub.same) rfl (by simp;omega) (by simp [maxLen];omega) ?_;apply aA (nN ((bd a).take ((bd d).length-1)) ((fV a).take _) (by rw [List.length_take];omega)) rfl;dsimp only [aG,aH];apply vn (aW dW (bE _)) rfl;apply vn (aQ) rfl;dsimp only [aG,aH]
 refine bD {g:Nat×Nat×List Nat // (bd d).length-1≤g.1∧g.1≤(bd a).length∧bv ((bd a).take g.1)=g.2.1+d*bv g.2.2∧g.2.1<d∧DB 32768 g.2.2∧g.2.2.length≤g.1} (fun g=>[.one (bT g.1.2.1), .one (.int .i64 g.1.1), .rows (rB g.1.2.2)]) (fun g=>(bd a).length-g.1.1) ⟨((bd d).length-1,bv ((bd a).take ((bd d).length-1)),[]),bZ _,by show (bd d).length-1≤_;omega,by simp [bv,val],by
  have h1:=MY ((fV a).take ((bd d).length-1));rw [List.length_take,Nat.min_eq_left (by omega)] at h1;exact Nat.lt_of_lt_of_le h1 (aG9 (by omega)),Se,eS _⟩ ⟨aI.Sub.same,aI.Sub.of_eq (congrArg (fun q=>aI.one (aN.int .i64 q)) (by show ((bd d).length:Int)-1=(((bd d).length-1:Nat):Int);omega)),aI.Sub.same,trivial⟩ (fun _=>rfl) ?_
 rintro ⟨⟨i,R,qs⟩,hi1,hi2,hv,hR,hq,hql⟩;dsimp only [aG,aH] at hi1 hi2 hv hR hq hql ⊢;have hRl:=eA (Nat.le_of_lt hR);apply vn (aW dW (bE _)) rfl;apply vn bA rfl;refine vs _ rfl ?_ ?_<;>intro h15
 ·obtain ⟨x,hx⟩:∃ x,(bd a)[i]? = some x:=⟨_,dS (by omega)⟩
  have hxB:=(fV a).get hx;refine GB (ts:=[]) (us:=rB (bd R)) (vs:=rB (bd R)) rfl (.inr aN.Sub.same) rfl (by simp;omega) (by simp [maxLen];omega) ?_;apply vn (cY dW hx) rfl;dsimp only [aG,aH];apply vn (cV Rh) rfl;apply uA (us:=rB [x]) rfl;refine GB (ts:=rB (bd R)) (us:=rB [x]) (vs:=rB (bd R ++ [x])) rfl rfl (by rw [rB,rB,rB,←List.map_append]) (by simp;omega) (by simp [maxLen];omega) ?_;dsimp only [aG,aH];have hdb:DB 32768 (bd R ++ [x]):=(fV R).append (fun y hy=>by simp at hy;omega);apply aA (nN (bd R ++ [x]) hdb (by simp;omega)) rfl;rw [vC,eL]
  apply aA (Vo (R*32768+x) d hd (by
   have:(R+1)*32768≤d*32768:=Nat.mul_le_mul_right _ hR;omega)) rfl
  have hmd:=Nat.mod_add_div (R*32768+x) d
  have hqB:(R*32768+x)/d<32768:=by
   rw [Nat.div_lt_iff_lt_mul hd,Nat.mul_comm];have:(R+1)*32768≤d*32768:=Nat.mul_le_mul_right _ hR;omega
  have hRm:=Nat.mod_lt (R*32768+x) hd;generalize (R*32768+x)/d=k at *;generalize (R*32768+x)%d=R' at *;apply uA (us:=rB [k]) rfl;refine GB (ts:=rB qs) (us:=rB [k]) (vs:=rB (qs ++ [k])) rfl rfl (by rw [rB,rB,rB,←List.map_append]) (by simp;omega) (by simp [maxLen];omega) ?_;dsimp only [aG,aH];apply vn (aD) rfl;dsimp only [aG,aH]
  exact aX rfl ⟨⟨(i+1,R',qs ++ [k]),by show _≤i+1;omega,by show i+1≤_;omega,by
   show bv ((bd a).take (i+1))=R'+d*bv (qs ++ [k]);rw [take_succ hx,vC,vC,hv,Nat.mul_add,Nat.add_mul,←Nat.mul_assoc];omega,hRm,hq.append (fun y hy=>by simp at hy;omega),by show (qs ++ [k]).length≤i+1;simp;omega⟩,aR.rfl,by show (bd a).length-(i+1)<(bd a).length-i;omega⟩
 have hie:i=(bd a).length:=by omega
 subst hie;rw [List.take_length,eL] at hv;obtain ⟨e1,e2⟩:=sK hv hR;apply aA (nN qs hq) rfl;dsimp only [aG,aH];rw [←e1,←e2];exact aJ rfl
theorem yB (m:Nat) (hm:(bd m).length≤4:=by omega):aL prog 112 [(.one (bT m):aI)] (.ret [.one (.int .i64 m)]):=by
 refine bV func112 Rk ?_;refine bD {i:Nat // i≤(bd m).length} (fun g=>[.one (.int .i64 (bv ((bd m).take g.1):Nat)), .one (.int .i64 g.1)]) (fun g=>(bd m).length-g.1) ⟨0,eS _⟩ aR.rfl (fun _=>rfl) ?_;rintro ⟨i,hi⟩;dsimp only [aG,aH] at hi ⊢;apply vn (aW dW (bE _)) rfl;apply vn bA rfl;refine vs _ rfl ?_ ?_<;>intro h3
 ·obtain ⟨x,hx⟩:∃ x,(bd m)[i]? = some x:=⟨_,dS (by omega)⟩
  have hxB:=(fV m).get hx;have hb:=MY ((fV m).take i);rw [List.length_take,Nat.min_eq_left hi] at hb;have hp:=On (i:=i);have hb2:=MY ((fV m).take (i+1));rw [List.length_take,Nat.min_eq_left (by omega)] at hb2;have hp2:=On (i:=i+1);have hsn:bv ((bd m).take (i+1))=bv ((bd m).take i)*32768+x:=by rw [take_succ hx,vC]
  generalize bv ((bd m).take i)=y at *;apply vn (bR) rfl;apply vn (cY dW hx) rfl;dsimp only [aG,aH];apply vn (cV Rh) rfl;apply vn (aD) rfl;apply vn (aD) rfl;dsimp only [aG,aH];exact aX rfl ⟨⟨i+1,by omega⟩,⟨aI.Sub.of_eq (congrArg (fun q:Int=>aI.one (aN.int .i64 q)) (by show (y:Int)*32768+x=((bv ((bd m).take (i+1)):Nat):Int);omega)),aI.Sub.same,trivial⟩,by show (bd m).length-(i+1)<(bd m).length-i;omega⟩
 rw [show i=(bd m).length by omega,List.take_length,eL];exact aJ rfl
set_option maxHeartbeats 1000000 in
theorem OF (x y:Int) (hs:(bd x.natAbs).length<17179869184:=by omega) (hs2:(bd y.natAbs).length<17179869184:=by omega):aL prog 140 [(zT x:aI),(zT y:aI)] (.ret [zT ((Nat.gcd x.natAbs y.natAbs:Nat):Int)]):=by
 refine bV func140 WG ?_;refine bD {p:Nat×Nat // Nat.gcd p.1 p.2=Nat.gcd x.natAbs y.natAbs∧(bd p.1).length<17179869184∧(bd p.2).length<17179869184} (fun p=>[.one (bT p.1.1), .one (bT p.1.2), .one (.int .i64 0), .one (.exact (.slice none 0 0))]) (fun p=>p.1.2) ⟨(x.natAbs,y.natAbs),rfl,hs,hs2⟩ aR.rfl (fun _=>rfl) ?_;rintro ⟨⟨a,b⟩,hg,ha,hb⟩;dsimp only [aG,aH] at hg ha hb ⊢;have hbz:(bd b).length=0↔b=0:=by rw [List.length_eq_zero_iff,Bh]
 have hml:=eA (Nat.mod_le a b);apply vn (aW dW (bE _)) rfl;apply vn cB rfl;refine vs _ rfl ?_ ?_<;>intro h3
 ·have hb0:0<b:=by
   rcases Nat.eq_zero_or_pos b with h | h
   ·have:=hbz.2 h;omega
   ·exact h
  apply vn (aW dW (bE _)) rfl;apply vn gE rfl;dsimp only [aG,aH];refine vs _ rfl ?_ ?_<;>intro h6
  ·apply vn (aW dW (bE _)) rfl;apply vn gE rfl;refine vs _ rfl ?_ ?_<;>intro h9
   ·have h4:∀ n,(bd n).length≤4→n<1152921504606846976:=fun n hn=>Nat.lt_of_lt_of_le (zO n) (On hn);have ha4:=h4 a (by omega);have hb4:=h4 b (by omega);apply aA (yB a) rfl;apply aA (yB b) rfl;dsimp only [aG,aH];refine bD {p:Nat×Nat // Nat.gcd p.1 p.2=Nat.gcd x.natAbs y.natAbs∧p.1<1152921504606846976∧p.2<1152921504606846976} (fun p=>[.one (.int .i64 p.1.1), .one (.int .i64 p.1.2)]) (fun p=>p.1.2) ⟨(a,b),hg,ha4,hb4⟩ aR.rfl (fun _=>rfl) ?_;rintro ⟨⟨p,q⟩,hpq,hp,hq⟩;dsimp only [aG,aH] at hpq hp hq ⊢;apply vn cS rfl;refine vs _ rfl ?_ ?_<;>intro h14
    ·apply vn (AL (c:=((p%q:Nat):Int)) (by omega) (by rw [Int.tmod_eq_emod_of_nonneg (kJ _),←Int.natCast_emod])) rfl;exact aX rfl ⟨⟨(q,p%q),by rw [←hpq,Nat.gcd_comm p q,Nat.gcd_rec q p,Nat.gcd_comm],hq,Nat.lt_of_le_of_lt (Nat.mod_le _ _) hp⟩,aR.rfl,Nat.mod_lt _ (by omega)⟩
    have hq0:q=0:=by omega
    subst hq0;rw [Nat.gcd_zero_right] at hpq;apply aA (jG p) rfl;dsimp only [aG,aH];rw [←hpq];exact aJ rfl
   apply aA (gY a b hb0) rfl;dsimp only [aG,aH];exact aX rfl ⟨⟨(b,a%b),by rw [←hg,Nat.gcd_comm a b,Nat.gcd_rec b a,Nat.gcd_comm],hb,by show (bd (a%b)).length<_;omega⟩,aR.rfl,Nat.mod_lt _ hb0⟩
  apply aA (gY a b hb0) rfl;dsimp only [aG,aH];exact aX rfl ⟨⟨(b,a%b),by rw [←hg,Nat.gcd_comm a b,Nat.gcd_rec b a,Nat.gcd_comm],hb,by show (bd (a%b)).length<_;omega⟩,aR.rfl,Nat.mod_lt _ hb0⟩
 have hb0:b=0:=hbz.1 (by omega);subst hb0;rw [Nat.gcd_zero_right] at hg;apply aA (eQ 1 (a:Int) (bd a) (fV _) (by rw [eL];rfl) (fun hne=>by rw [eL] at hne;exact Int.sign_eq_one_of_pos (by omega))) rfl;dsimp only [aG,aH];rw [←hg];exact aJ rfl
open Go Go.Proofs Tryz Ord
def aC6:Tr:=aO .eql 3 5 0 0 2 4 (.split (.u 1 0) (.need (.call 59 [(WK 1)] [(some 2)]) (.call ⟨.value (.func 59),#[(.const (I3 1))],#[2]⟩) 33 true (.ret [(G2 2)])) (.ret [(.agg [(U 0 2),(U 0 3)])]))
theorem ao5:aK prog f50 (fun _=>none) [.v (some 4)]=aC6:=by kernel_rfl
def ad3:Tr:=aO .eql 3 28 1 9 0 4 (.split (.u 10 0) (.ret [(.agg [(U 3 0),(U 3 1),(U 4 0),(U 4 1)])]) (aC 111 [(W 3 1),(W 5 1)] [none,none] [36,38] [31,31] 143 false (aC 111 [(W 4 1),(W 5 1)] [none,none] [44,46] [31,31] 143 false (aC 114 [(W 3 0),(W 11 0)] [(some 2)] [51,52] [3,31] 33 false (.need (.call 114 [(WK 1),(W 13 0)] [(some 2)]) (.call ⟨.value (.func 114),#[(.const (I3 1)),(tT 54)],#[3,31]⟩) 33 true (.ret [(.agg [(U 15 0),(U 15 1),(U 16 0),(U 16 1)])]))))))
def aH7:Tr:=aO .eql 3 22 1 6 0 4 (.split (.u 7 0) (.need (.prim [(W 5 1),(WK 0)] none) (.indexAddr 31 (tT 26) (.const (I3 0))) 0 false (mN 8 0 none 3 27 ad3)) (aC 111 [(W 3 1),(W 5 1)] [none,none] [36,38] [31,31] 143 false (aC 111 [(W 4 1),(W 5 1)] [none,none] [44,46] [31,31] 143 false (aC 114 [(W 3 0),(W 8 0)] [(some 2)] [51,52] [3,31] 33 false (.need (.call 114 [(WK 1),(W 10 0)] [(some 2)]) (.call ⟨.value (.func 114),#[(.const (I3 1)),(tT 54)],#[3,31]⟩) 33 true (.ret [(.agg [(U 12 0),(U 12 1),(U 13 0),(U 13 1)])]))))))
def ad5:Tr:=aO .eql 3 28 1 7 0 4 (.split (.u 8 0) (.ret [(.agg [(U 0 0),(U 0 1),(U 1 0),(U 1 1)])]) (aC 111 [(W 0 1),(W 3 1)] [none,none] [36,38] [31,31] 143 false (aC 111 [(W 1 1),(W 3 1)] [none,none] [44,46] [31,31] 143 false (aC 114 [(W 0 0),(W 9 0)] [(some 2)] [51,52] [3,31] 33 false (.need (.call 114 [(WK 1),(W 11 0)] [(some 2)]) (.call ⟨.value (.func 114),#[(.const (I3 1)),(tT 54)],#[3,31]⟩) 33 true (.ret [(.agg [(U 13 0),(U 13 1),(U 14 0),(U 14 1)])]))))))
def an5:Tr:=aO .eql 3 22 1 4 0 4 (.split (.u 5 0) (.need (.prim [(W 3 1),(WK 0)] none) (.indexAddr 31 (tT 26) (.const (I3 0))) 0 false (mN 6 0 none 3 27 ad5)) (aC 111 [(W 0 1),(W 3 1)] [none,none] [36,38] [31,31] 143 false (aC 111 [(W 1 1),(W 3 1)] [none,none] [44,46] [31,31] 143 false (aC 114 [(W 0 0),(W 6 0)] [(some 2)] [51,52] [3,31] 33 false (.need (.call 114 [(WK 1),(W 8 0)] [(some 2)]) (.call ⟨.value (.func 114),#[(.const (I3 1)),(tT 54)],#[3,31]⟩) 33 true (.ret [(.agg [(U 10 0),(U 10 1),(U 11 0),(U 11 1)])]))))))
def aL5:Tr:=aO .lss 3 11 0 1 0 4 (.split (.u 2 0) (aC 113 [(G2 0)] [(some 2)] [13] [33] 33 false (aC 113 [(G2 1)] [(some 2)] [15] [33] 33 true (aC 140 [(G2 3),(G2 4)] [(some 2)] [17,18] [33,33] 33 true (dH 5 1 21 31 aH7)))) (aC 140 [(G2 0),(G2 1)] [(some 2)] [17,18] [33,33] 33 true (dH 3 1 21 31 an5)))
theorem RC:aK prog f95 (fun _=>none) [.v (some 2), .v (some 2)]=aL5:=by kernel_rfl
def Yu:Tr:=.ret [(.agg [(U 1 0),(U 1 1),(U 2 0),(U 2 1)])]
def au6:Tr:=aC 59 [(W 0 0)] [(some 2)] [3] [2] 33 true (.need (.call 59 [(WK 1)] [(some 2)]) (.call ⟨.value (.func 59),#[(.const (I3 1))],#[2]⟩) 33 true Yu)
theorem ab2:aK prog f42 (fun _=>none) [.v none]=au6:=by kernel_rfl
def aH8:Tr:=aC 59 [(W 0 0)] [(some 2)] [5] [2] 33 false (aC 59 [(W 1 0)] [(some 2)] [7] [2] 33 true (aC 95 [(G2 2),(G2 3)] [(some 4)] [6,8] [33,33] 35 true (.ret [(G4 4)])))
theorem aK9:aK prog f31 (fun _=>none) [.v none, .v none]=aH8:=by kernel_rfl
def aK7:Tr:=aC 54 [(G2 1),(G2 4)] [(some 2)] [11,13] [33,33] 33 false (aC 61 [(G2 3),(G2 5)] [(some 2)] [9,14] [33,33] 33 false (aC 50 [(G4 0)] [(some 2)] [16] [35] 33 false (aC 50 [(G4 1)] [(some 2)] [18] [35] 33 false (aC 54 [(G2 7),(G2 8)] [(some 2)] [17,19] [33,33] 33 true (aC 95 [(G2 6),(G2 9)] [(some 4)] [15,20] [33,33] 35 true (.ret [(G4 10)]))))))
def ax6:Tr:=aC 50 [(G4 1)] [(some 2)] [7] [35] 33 false (aC 54 [(G2 0),(G2 2)] [(some 2)] [6,8] [33,33] 33 false (aC 50 [(G4 0)] [(some 2)] [12] [35] 33 false aK7))
theorem ar3:aK prog f44 (fun _=>none) [.v (some 4), .v (some 4)]=ax6:=by kernel_rfl
def aA2:Tr:=aC 52 [(G4 1)] [(some 4)] [6] [35] 35 true (aC 44 [(G4 0),(G4 2)] [(some 4)] [5,7] [35,35] 35 true (.ret [(G4 3)]))
theorem ar1:aK prog f43 (fun _=>none) [.v (some 4), .v (some 4)]=aA2:=by kernel_rfl
def YI:Tr:=.ret [(G4 6)]
def aK3:Tr:=aC 54 [(G2 0),(G2 1)] [(some 2)] [6,8] [33,33] 33 false (aC 50 [(G4 0)] [(some 2)] [10] [35] 33 false (aC 50 [(G4 1)] [(some 2)] [12] [35] 33 false (aC 54 [(G2 3),(G2 4)] [(some 2)] [11,13] [33,33] 33 true (aC 95 [(G2 2),(G2 5)] [(some 4)] [9,14] [33,33] 35 true YI))))
theorem ah4:aK prog f33 (fun _=>none) [.v (some 4), .v (some 4)]=aK3:=by kernel_rfl
def as6:Tr:=aC 50 [(G4 1)] [(some 2)] [7] [35] 33 false (aC 54 [(G2 0),(G2 2)] [(some 2)] [6,8] [33,33] 33 false (aC 50 [(G4 0)] [(some 2)] [10] [35] 33 false (aC 54 [(G2 4),(G2 1)] [(some 2)] [11,13] [33,33] 33 true (aC 95 [(G2 3),(G2 5)] [(some 4)] [9,14] [33,33] 35 true YI))))
theorem ZA:aK prog f75 (fun _=>none) [.v (some 4), .v (some 4)]=as6:=by kernel_rfl
def YF:Tr:=aC 50 [(G4 0)] [(some 2)] [6] [35] 33 true Yu
def aw8:Tr:=aC 113 [(G2 0)] [(some 2)] [4] [33] 33 false YF
theorem an3:aK prog f52 (fun _=>none) [.v (some 4)]=aw8:=by kernel_rfl
def aF1:Tr:=aC 49 [(G2 0)] [(some 2)] [4] [33] 33 false YF
theorem aj6:aK prog f78 (fun _=>none) [.v (some 4)]=aF1:=by kernel_rfl
def ax9:Tr:=.ret [(W 0 0)]
theorem Wt:aK prog f11 (fun _=>none) [.v (some 4)]=ax9:=by kernel_rfl
structure RQ where
 q:Rat
 z:Bool
 h:z=true→q=0
def RQ.of (q:Rat):RQ:=⟨q,false,fun h=>by cases h⟩
def RQ.nil:RQ:=⟨0,true,fun _=>rfl⟩
abbrev rC (a:RQ):List aN:=[.int .i64 a.q.num.sign,bT a.q.num.natAbs, .int .i64 (if a.z then 0 else 1),bT (if a.z then 0 else a.q.den)]
abbrev kB (a:RQ):aI:=.agg (rC a)
theorem RQ.Jz (q:Rat):(RQ.of q).q=q:=rfl
theorem ae7 (q:Rat):zT (q.den:Int) = .agg [.int .i64 1,bT q.den]:=NU q.den_pos
theorem gC:aV aN.Sub [.int .i64 0, .exact (.slice none 0 0), .int .i64 0, .exact (.slice none 0 0)] (rC RQ.nil):=⟨aN.Sub.same,VF rfl,aN.Sub.same,VF rfl,trivial⟩
theorem hC (a:RQ):aL prog 50 [(kB a:aI)] (.ret [zT (a.q.den:Int)]):=by
 refine bV func50 ao5 ?_;apply vn aE rfl;refine vs _ rfl ?_ ?_<;>intro h1
 ·have ha:a.z=true:=by cases h:a.z<;>simp_all
  have hq:=a.h ha;apply aA (jG 1) rfl;dsimp only [aG,aH];rw [hq];exact aJ rfl
 have ha:a.z=false:=by cases h:a.z<;>simp_all
 refine aJ ?_;rw [ae7];show [aI.agg [.int .i64 (if a.z then 0 else 1),bT (if a.z then 0 else a.q.den)]]=_;rw [ha];rfl
theorem eR {n B:Nat} (h:n<2^B):(bd n).length≤B:=gO (Nat.lt_of_lt_of_le h (Nat.pow_le_pow_left (by omega) B))
def oP (n d:Int):Rat:=mkRat (if d<0 then -n else n) d.natAbs
theorem XT {z:Int} {d:Nat} (hd:d≠0:=by omega):(mkRat z d).num=z/((z.natAbs.gcd d:Nat):Int)∧(mkRat z d).den=d/z.natAbs.gcd d∧(mkRat z d).num.natAbs=z.natAbs/z.natAbs.gcd d∧(mkRat z d).num.sign=z.sign:=by
 obtain ⟨h1,h2⟩:=Tx (z:=z) hd;have hg:0<z.natAbs.gcd d:=Nat.gcd_pos_of_pos_right _ (by omega);have hgz:z≠0→z.natAbs.gcd d≤z.natAbs:=fun h=>Nat.gcd_le_left _ (by omega)
 have h3:(mkRat z d).num.natAbs=z.natAbs/z.natAbs.gcd d:=by
  rw [h1];generalize z.natAbs/z.natAbs.gcd d=t;split<;>omega
 refine ⟨?_,h2,h3,?_⟩
 ·rw [←Rat.normalize_eq_mkRat hd,Rat.normalize_eq hd]
 ·rcases bW z with ⟨h,e⟩ | ⟨h,e⟩ | ⟨h,e⟩
  ·rw [e,h1,decide_eq_true h,if_pos rfl];have:=Nat.div_pos (hgz (by omega)) hg;exact Int.sign_eq_neg_one_of_neg (by omega)
  ·rw [e];subst h;rw [Rat.zero_mkRat];rfl
  ·rw [e,h1,decide_eq_false (by omega),if_neg (by simp)];have:=Nat.div_pos (hgz (by omega)) hg;exact Int.sign_eq_one_of_pos (by omega)
theorem qB {g:Nat} (h:(bd g).length=1) {x:Nat} (hx:(bd g)[0]? = some x):g=x:=by
 match hb:bd g,h with
 | [y],_=>
   rw [hb] at hx;simp only [List.getElem?_cons_zero,aM] at hx;subst hx;rw [←eL g,hb,uH];simp [bv,val]
theorem qV {q:Rat}:kB (RQ.of q) = .agg [.int .i64 q.num.sign,bT q.num.natAbs, .int .i64 1,bT q.den]:=rfl
set_option maxHeartbeats 1000000 in
theorem rG (n d:Int) (hd:d≠0) (hs2:(bd d.natAbs).length<8589934592:=by omega) (hs:(bd n.natAbs).length<8589934592:=by omega):aL prog 95 [(zT n:aI),(zT d:aI)] (.ret [kB (.of (oP n d))]):=by
 refine bV func95 RC ?_;have hsd:=bW d
 have key:∀ m:Int,m.natAbs=n.natAbs→oP n d=mkRat m d.natAbs→(oP n d).den=d.natAbs/Nat.gcd n.natAbs d.natAbs∧(oP n d).num.natAbs=n.natAbs/Nat.gcd n.natAbs d.natAbs∧(oP n d).num.sign=m.sign:=fun m hm e=>by
  have:=XT (z:=m) (d:=d.natAbs);rw [hm] at this;rw [e];exact ⟨this.2.1,this.2.2.1,this.2.2.2⟩
 have hg:0<Nat.gcd n.natAbs d.natAbs:=Nat.gcd_pos_of_pos_right _ (by omega);have hgd:Nat.gcd n.natAbs d.natAbs≤d.natAbs:=Nat.gcd_le_right _ (by omega);have hgl:=eA hgd;have hdg:=Nat.div_pos hgd hg;have hnl:=eA (Nat.div_le_self n.natAbs (Nat.gcd n.natAbs d.natAbs));have hdl:=eA (Nat.div_le_self d.natAbs (Nat.gcd n.natAbs d.natAbs));apply vn bA rfl;refine vs _ rfl ?_ ?_<;>intro h1
 ·have hd0:d<0:=by rcases hsd with ⟨h,e⟩ | ⟨h,e⟩ | ⟨h,e⟩<;>omega
  have hR:oP n d=mkRat (-n) d.natAbs:=by rw [oP,if_pos hd0]
  obtain ⟨k1,k2,k3⟩:=key (-n) (Int.natAbs_neg n) hR;generalize oP n d=q at *;apply aA (KQ n) rfl;apply aA (KQ d) rfl;dsimp only [aG,aH];have hc:=OF (-n) (-d) (by rw [Int.natAbs_neg];omega) (by rw [Int.natAbs_neg];omega);rw [Int.natAbs_neg,Int.natAbs_neg] at hc;apply aA hc rfl;generalize hG:Nat.gcd n.natAbs d.natAbs=g at *;apply vn (aW dW (bE _)) rfl;apply vn aE rfl;refine vs _ rfl ?_ ?_<;>intro h7
  ·obtain ⟨x,hx⟩:∃ x,(bd g)[0]? = some x:=⟨_,dS (by rw [Int.natAbs_natCast] at h7;omega)⟩
   apply vn (cY dW (show (bd ((g:Int)).natAbs)[0]? = some x from hx)) rfl;dsimp only [aG,aH];apply vn (cV Rh) rfl;apply vn aE rfl;refine vs _ rfl ?_ ?_<;>intro h11
   ·have hg1:g=1:=by
     have:=qB (g:=g) (by rw [Int.natAbs_natCast] at h7;omega) hx;omega
    rw [hg1,Nat.div_one] at k1 k2;refine aJ ?_;rw [qV,k3,k2,k1];show [aI.agg [.int .i64 (-n).sign,bT (-n).natAbs, .int .i64 (-d).sign,bT (-d).natAbs]]=_;rw [Int.natAbs_neg,Int.natAbs_neg,Int.sign_eq_one_of_pos (show 0 < -d by omega)]
   have ho1:=gY n.natAbs g hg;have ho2:=gY d.natAbs g hg;rw [←k2] at ho1 hnl;rw [←k1] at ho2 hdl hdg;have hn':(-n).natAbs=n.natAbs:=Int.natAbs_neg n;have hd':(-d).natAbs=d.natAbs:=Int.natAbs_neg d;rw [←hn'] at ho1;rw [←hd'] at ho2;apply aA ho1 rfl;apply aA ho2 rfl;dsimp only [aG,aH];apply aA (eQ (-n).sign q.num _ (fV _) (by rw [eL]) (fun _=>k3)) rfl;apply aA (eQ 1 (q.den:Int) _ (fV _) (by rw [eL];rfl) (fun _=>Int.sign_eq_one_of_pos (by omega))) rfl;dsimp only [aG,aH];refine aJ ?_;rw [qV];show [aI.agg [.int .i64 q.num.sign,bT q.num.natAbs, .int .i64 (q.den:Int).sign,bT (q.den:Int).natAbs]]=_;rw [Int.sign_eq_one_of_pos (show (0:Int)<q.den by omega),Int.natAbs_natCast]
  have ho1:=gY n.natAbs g hg;have ho2:=gY d.natAbs g hg;rw [←k2] at ho1 hnl;rw [←k1] at ho2 hdl hdg;have hn':(-n).natAbs=n.natAbs:=Int.natAbs_neg n;have hd':(-d).natAbs=d.natAbs:=Int.natAbs_neg d;rw [←hn'] at ho1;rw [←hd'] at ho2;apply aA ho1 rfl;apply aA ho2 rfl;apply aA (eQ (-n).sign q.num _ (fV _) (by rw [eL]) (fun _=>k3)) rfl;apply aA (eQ 1 (q.den:Int) _ (fV _) (by rw [eL];rfl) (fun _=>Int.sign_eq_one_of_pos (by omega))) rfl;dsimp only [aG,aH];refine aJ ?_;rw [qV];show [aI.agg [.int .i64 q.num.sign,bT q.num.natAbs, .int .i64 (q.den:Int).sign,bT (q.den:Int).natAbs]]=_;rw [Int.sign_eq_one_of_pos (show (0:Int)<q.den by omega),Int.natAbs_natCast]
 have hd0:0<d:=by rcases hsd with ⟨h,e⟩ | ⟨h,e⟩ | ⟨h,e⟩<;>omega
 have hR:oP n d=mkRat n d.natAbs:=by rw [oP,if_neg (by omega)]
 obtain ⟨k1,k2,k3⟩:=key n rfl hR;generalize oP n d=q at *;have hc:=OF n d;apply aA hc rfl;generalize hG:Nat.gcd n.natAbs d.natAbs=g at *;apply vn (aW dW (bE _)) rfl;apply vn aE rfl;refine vs _ rfl ?_ ?_<;>intro h26
 ·obtain ⟨x,hx⟩:∃ x,(bd g)[0]? = some x:=⟨_,dS (by rw [Int.natAbs_natCast] at h26;omega)⟩
  apply vn (cY dW (show (bd ((g:Int)).natAbs)[0]? = some x from hx)) rfl;dsimp only [aG,aH];apply vn (cV Rh) rfl;apply vn aE rfl;refine vs _ rfl ?_ ?_<;>intro h30
  ·have hg1:g=1:=by
    have:=qB (g:=g) (by rw [Int.natAbs_natCast] at h26;omega) hx;omega
   rw [hg1,Nat.div_one] at k1 k2;refine aJ ?_;rw [qV,k3,k2,k1];show [aI.agg [.int .i64 n.sign,bT n.natAbs, .int .i64 d.sign,bT d.natAbs]]=_;rw [Int.sign_eq_one_of_pos (show 0<d by omega)]
  have ho1:=gY n.natAbs g hg;have ho2:=gY d.natAbs g hg;rw [←k2] at ho1 hnl;rw [←k1] at ho2 hdl hdg;apply aA ho1 rfl;apply aA ho2 rfl;dsimp only [aG,aH];apply aA (eQ n.sign q.num _ (fV _) (by rw [eL]) (fun _=>k3)) rfl;apply aA (eQ 1 (q.den:Int) _ (fV _) (by rw [eL];rfl) (fun _=>Int.sign_eq_one_of_pos (by omega))) rfl;dsimp only [aG,aH];refine aJ ?_;rw [qV];show [aI.agg [.int .i64 q.num.sign,bT q.num.natAbs, .int .i64 (q.den:Int).sign,bT (q.den:Int).natAbs]]=_;rw [Int.sign_eq_one_of_pos (show (0:Int)<q.den by omega),Int.natAbs_natCast]
 have ho1:=gY n.natAbs g hg;have ho2:=gY d.natAbs g hg;rw [←k2] at ho1 hnl;rw [←k1] at ho2 hdl hdg;apply aA ho1 rfl;apply aA ho2 rfl;apply aA (eQ n.sign q.num _ (fV _) (by rw [eL]) (fun _=>k3)) rfl;apply aA (eQ 1 (q.den:Int) _ (fV _) (by rw [eL];rfl) (fun _=>Int.sign_eq_one_of_pos (by omega))) rfl;dsimp only [aG,aH];refine aJ ?_;rw [qV];show [aI.agg [.int .i64 q.num.sign,bT q.num.natAbs, .int .i64 (q.den:Int).sign,bT (q.den:Int).natAbs]]=_;rw [Int.sign_eq_one_of_pos (show (0:Int)<q.den by omega),Int.natAbs_natCast]
theorem MT {n:Int} {d:Nat}:oP n (d:Int)=mkRat n d:=by
 rw [oP,if_neg (by omega),Int.natAbs_natCast]
theorem MC {a b:Rat} (hb:b≠0):oP (a.num*(b.den:Int)) ((a.den:Int)*b.num)=a/b:=by
 have hn:b.num≠0:=fun e=>hb (Rat.num_eq_zero.1 e);have ha:=a.den_pos;rw [←TG hb,oP,Int.natAbs_mul,Int.natAbs_natCast];by_cases h:b.num<0
 ·rw [if_pos (Int.mul_neg_of_pos_of_neg (by omega) h),decide_eq_true h,if_pos rfl,Int.mul_neg]
 ·rw [if_neg (by have:=Int.mul_nonneg (show (0:Int)≤a.den by omega) (show 0≤b.num by omega);omega),decide_eq_false h,if_neg (by simp)]
theorem Ya {n d:Int} (hd:d≠0):oP n d=(n:Rat)/(d:Rat):=by
 have h:=MC (a:=(n:Rat)) (b:=(d:Rat)) (by rw [Ne,←Rat.num_eq_zero,Rat.num_intCast];exact hd);rw [Rat.num_intCast,Rat.num_intCast,Rat.den_intCast,Rat.den_intCast] at h;rw [←h];congr 1<;>omega
theorem Fit.bd {B:Nat} {q:Rat} (h:Fit B q):(bd q.num.natAbs).length≤B∧(bd q.den).length≤B:=⟨eR h.1,eR h.2⟩
theorem iJ (n:Int) (h1:-9223372036854775808≤n:=by omega) (h2:n<9223372036854775808:=by omega):aL prog 42 [(.one (.int .i64 n):aI)] (.ret [kB (.of (n:Rat))]):=by
 refine bV func42 ab2 ?_;apply aA (jG n h1 h2) rfl;apply aA (jG 1) rfl;dsimp only [aG,aH];rw [qV,Rat.num_intCast,Rat.den_intCast];exact aJ rfl
theorem LW (n d:Int) (h1:-9223372036854775808≤n:=by omega) (h2:n<9223372036854775808:=by omega) (hd:d≠0:=by omega) (h3:-9223372036854775808≤d:=by omega) (h4:d<9223372036854775808:=by omega):aL prog 31 [(.one (.int .i64 n):aI),(.one (.int .i64 d):aI)] (.ret [kB (.of ((n:Rat)/(d:Rat)))]):=by
 refine bV func31 aK9 ?_;apply aA (jG n h1 h2) rfl;apply aA (jG d h3 h4) rfl;dsimp only [aG,aH];have hn:=eR (n:=n.natAbs) (B:=64) (by omega);have hdd:=eR (n:=d.natAbs) (B:=64) (by omega);apply aA (rG n d hd) rfl;rw [Ya hd];exact aJ rfl
theorem ae5 (a:RQ):aL prog 52 [(kB a:aI)] (.ret [kB (.of (-a.q))]):=by
 refine bV func52 an3 ?_;apply aA (KQ a.q.num) rfl;apply aA (hC a) rfl;dsimp only [aG,aH];refine aJ ?_;rw [qV,Rat.neg_num,Rat.neg_den];show [aI.agg [.int .i64 (-a.q.num).sign,bT (-a.q.num).natAbs, .int .i64 (a.q.den:Int).sign,bT (a.q.den:Int).natAbs]]=_;have:=a.q.den_pos;rw [Int.sign_eq_one_of_pos (show (0:Int)<a.q.den by omega),Int.natAbs_natCast]
theorem Ir (a:RQ):aL prog 78 [(kB a:aI)] (.ret [kB (.of a.q.abs)]):=by
 refine bV func78 aj6 ?_;apply aA (Oz a.q.num) rfl;apply aA (hC a) rfl;dsimp only [aG,aH];refine aJ ?_;rw [qV,(uG a.q).1,(uG a.q).2];show [aI.agg [.int .i64 ((a.q.num.natAbs:Nat):Int).sign,bT ((a.q.num.natAbs:Nat):Int).natAbs, .int .i64 (a.q.den:Int).sign,bT (a.q.den:Int).natAbs]]=_;have:=a.q.den_pos;rw [Int.sign_eq_one_of_pos (show (0:Int)<a.q.den by omega)];simp only [Int.natAbs_natCast]
theorem kH (a:RQ):aL prog 11 [(kB a:aI)] (.ret [.one (.int .i64 a.q.num.sign)]):=by
 refine bV func11 Wt ?_;exact aJ rfl
theorem mD (a b:RQ) (A B:Nat) (ha:Fit A a.q) (hb:Fit B b.q) (h:A+B≤4294967296:=by omega):aL prog 33 [(kB a:aI),(kB b:aI)] (.ret [kB (.of (a.q*b.q))]):=by
 refine bV func33 ah4 ?_;obtain ⟨ha1,ha2⟩:=Fit.bd ha;obtain ⟨hb1,hb2⟩:=Fit.bd hb;have hn:=eR (aZ ha.1 hb.1);have hd:=eR (aZ ha.2 hb.2);have hpa:=a.q.den_pos;have hpb:=b.q.den_pos;apply aA (iQ a.q.num b.q.num) rfl;apply aA (hC a) rfl;apply aA (hC b) rfl;apply aA (iQ (a.q.den:Int) (b.q.den:Int) (by rw [Int.natAbs_natCast,Int.natAbs_natCast];omega)) rfl;rw [←Int.natCast_mul];dsimp only [aG,aH];apply aA (rG _ ((a.q.den*b.q.den:Nat):Int) (by have:=Nat.mul_pos hpa hpb;omega) (by rw [Int.natAbs_natCast];omega) (by rw [Int.natAbs_mul];omega)) rfl;rw [MT,←Rat.mul_def'];exact aJ rfl
theorem ah1 (a b:RQ) (A B:Nat) (ha:Fit A a.q) (hb:Fit B b.q) (h:A+B≤4294967296):aL prog 44 [(kB a:aI),(kB b:aI)] (.ret [kB (.of (a.q+b.q))]):=by
 refine bV func44 ar3 ?_;obtain ⟨ha1,ha2⟩:=Fit.bd ha;obtain ⟨hb1,hb2⟩:=Fit.bd hb;have hn1:=eR (aZ ha.1 hb.2);have hn2:=eR (aZ hb.1 ha.2);have hd:=eR (aZ ha.2 hb.2);have hpa:=a.q.den_pos;have hpb:=b.q.den_pos
 have hsum:(bd (a.q.num*(b.q.den:Int)+b.q.num*(a.q.den:Int)).natAbs).length≤A+B+1:=by
  apply eR;have h1:=aZ ha.1 hb.2;have h2:=aZ hb.1 ha.2;rw [Nat.add_comm B A] at h2;rw [Nat.pow_succ];refine Nat.lt_of_le_of_lt (Int.natAbs_add_le _ _) ?_;rw [Int.natAbs_mul,Int.natAbs_mul,Int.natAbs_natCast,Int.natAbs_natCast];omega
 apply aA (hC b) rfl;apply aA (iQ a.q.num (b.q.den:Int) (by rw [Int.natAbs_natCast];omega)) rfl;apply aA (hC a) rfl;apply aA (iQ b.q.num (a.q.den:Int) (by rw [Int.natAbs_natCast];omega)) rfl;dsimp only [aG,aH];apply aA (VJ _ _ (by rw [Int.natAbs_mul,Int.natAbs_natCast];omega) (by rw [Int.natAbs_mul,Int.natAbs_natCast];omega)) rfl;apply aA (hC a) rfl;apply aA (hC b) rfl;apply aA (iQ (a.q.den:Int) (b.q.den:Int) (by rw [Int.natAbs_natCast,Int.natAbs_natCast];omega)) rfl;rw [←Int.natCast_mul a.q.den b.q.den];dsimp only [aG,aH];apply aA (rG _ ((a.q.den*b.q.den:Nat):Int) (by have:=Nat.mul_pos hpa hpb;omega) (by rw [Int.natAbs_natCast];omega)) rfl;rw [MT,←Rat.add_def'];exact aJ rfl
theorem Jq (a b:RQ) (A B:Nat) (ha:Fit A a.q) (hb:Fit B b.q) (h:A+B≤4294967296:=by omega):aL prog 43 [(kB a:aI),(kB b:aI)] (.ret [kB (.of (a.q-b.q))]):=by
 refine bV func43 ar1 ?_;apply aA (ae5 b) rfl;apply aA (ah1 a (.of (-b.q)) A B ha hb.neg h) rfl;rw [RQ.Jz,←Rat.sub_eq_add_neg];exact aJ rfl
theorem kN (a b:RQ) (A B:Nat) (hb0:b.q≠0) (ha:Fit A a.q) (hb:Fit B b.q) (h:A+B≤4294967296:=by omega):aL prog 75 [(kB a:aI),(kB b:aI)] (.ret [kB (.of (a.q/b.q))]):=by
 refine bV func75 ZA ?_;obtain ⟨ha1,ha2⟩:=Fit.bd ha;obtain ⟨hb1,hb2⟩:=Fit.bd hb;have hn:=eR (aZ ha.1 hb.2);have hd:=eR (aZ ha.2 hb.1);have hpa:=a.q.den_pos;have hnb:b.q.num≠0:=fun e=>hb0 (Rat.num_eq_zero.1 e);apply aA (hC b) rfl;apply aA (iQ a.q.num (b.q.den:Int) (by rw [Int.natAbs_natCast];omega)) rfl;apply aA (hC a) rfl;apply aA (iQ (a.q.den:Int) b.q.num (by rw [Int.natAbs_natCast];omega)) rfl;dsimp only [aG,aH];apply aA (rG _ _ (Int.mul_ne_zero (by omega) hnb) (by rw [Int.natAbs_mul,Int.natAbs_natCast];omega) (by rw [Int.natAbs_mul,Int.natAbs_natCast];omega)) rfl;rw [MC hb0];exact aJ rfl
end Go.Sy
