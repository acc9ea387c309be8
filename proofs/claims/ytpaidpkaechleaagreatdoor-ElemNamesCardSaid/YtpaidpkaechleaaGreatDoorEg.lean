/- Part. -/
import Derived.Test.YtpaidpkaechleaaGreatDoorEd
set_option linter.all false
namespace Go.Sy
open Go Go.Proofs Tryz Ord
def WB:Tr:=cX .add 3 11 12 6 0 2 0 3 (aX .add 2 18 1 7 0 2 (cX .mul 2 17 19 7 0 8 0 2 (.need (.call 67 [(WK 1),(W 9 0)] [(some 3)]) (.call ⟨.value (.func 67),#[(.const (I3 1)),(tT 20)],#[2,2]⟩) 30 false (aI 108 [(G6 4),(G3 10)] [(some 6)] [16,21] [39,30] 39 true (aI 150 [(G6 3),(G6 0),(G6 11)] [(some 6)] [14,15,22] [81,39,39] 39 true (.ret [(G6 12)]))))))
def XA:Tr:=.need (.prim [(WK 2),(W 1 0)] none) (.binOp .mul 3 (.const (I3 2)) (tT 9) 3) 3 false (aX .add 3 10 1 5 0 3 WB)
theorem KW:aN prog f204 (fun _=>none) [.v (some 6), .v none, .ref 1, .ref 6, .ref 6]=XA:=by kernel_rfl
def RD:Tr:=.ret [(G6 8)]
def Zo:Tr:=aI 69 [] [(some 3)] [] [] 30 true (aI 92 [(G3 3)] [(some 6)] [9] [30] 39 true (aX .eql 3 11 1 2 0 4 (.split (.u 5 0) (aI 150 [(G6 0),(G6 1),(G6 1)] [(some 6)] [14,15,16] [81,39,39] 39 true (aI 37 [(G6 6)] [(some 6)] [17] [39] 39 true (aI 151 [(G6 0),(G6 1),(.one (.dZ 204 [(.ref 0 [(.u 2 0)]),(.ref 0 [(.u 0 0),(.u 0 1),(.u 0 2),(.u 0 3),(.u 0 4),(.u 0 5)]),(.ref 0 [(.u 7 0),(.u 7 1),(.u 7 2),(.u 7 3),(.u 7 4),(.u 7 5)])]))] [(some 6)] [19,20,21] [81,39,181] 39 true RD))) (aI 150 [(G6 0),(G6 1),(G6 1)] [(some 6)] [14,15,16] [81,39,39] 39 true (aI 37 [(G6 6)] [(some 6)] [17] [39] 39 true (aI 151 [(G6 0),(G6 4),(.one (.dZ 204 [(.ref 0 [(.u 2 0)]),(.ref 0 [(.u 0 0),(.u 0 1),(.u 0 2),(.u 0 3),(.u 0 4),(.u 0 5)]),(.ref 0 [(.u 7 0),(.u 7 1),(.u 7 2),(.u 7 3),(.u 7 4),(.u 7 5)])]))] [(some 6)] [19,20,21] [81,39,181] 39 true RD))))))
theorem OM:aN prog f195 (fun _=>none) [.v (some 6), .v (some 6), .v none]=Zo:=by kernel_rfl
def Vk:Tr:=aI 195 [(G6 0),(G6 13),(W 18 0)] [(some 6)] [41,42,44] [81,39,3] 39 true (aX .eql 2 46 1 17 0 4 (.split (.u 20 0) (aI 37 [(G6 19)] [(some 6)] [52] [39] 39 true (.ret [(G6 21)])) (aX .eql 2 49 2 17 0 4 (.split (.u 21 0) (aI 37 [(G6 19)] [(some 6)] [52] [39] 39 true (.ret [(G6 22)])) (.ret [(G6 19)])))))
def Ww:Tr:=aI 108 [(G6 5),(G3 9)] [(some 6)] [27,28] [39,30] 39 false (aI 109 [(G6 10),(G6 11)] [(some 6)] [26,29] [39,39] 39 true (aI 107 [(G6 0),(G6 12)] [(some 6)] [24,30] [81,39] 39 true (aI 127 [(G3 9)] [none,none] [33] [30] 155 false (cX .sub 2 37 38 14 0 2 0 2 (aX .and 2 39 3 16 0 2 (aX .and 2 43 1 17 0 2 Vk))))))
def XX:Tr:=.need (.call 101 [(WK 1)] [(some 3)]) (.call ⟨.value (.func 101),#[(.const (I3 1))],#[3]⟩) 30 true (aI 108 [(G6 3),(G3 4)] [(some 6)] [14,15] [39,30] 39 true (aI 66 [(G3 1),(G3 5)] [(some 3)] [17,19] [30,30] 30 false (.need (.call 101 [(WK 1)] [(some 3)]) (.call ⟨.value (.func 101),#[(.const (I3 1))],#[3]⟩) 30 false (aI 100 [(G3 6),(G3 7)] [(some 3)] [20,21] [30,30] 30 true (aI 99 [(G3 8)] [(some 3)] [22] [30] 30 true (aI 92 [(G3 1)] [(some 6)] [25] [30] 39 false Ww))))))
def XC:Tr:=aI 40 [(G6 0)] [(some 6)] [13] [81] 39 true XX
theorem Pz:aN prog f170 (fun _=>none) [.v (some 6), .v (some 3), .v none]=XC:=by kernel_rfl
def Fo:Tr:=.ret [(.agg [(U 2 0),(U 2 1),(U 2 2),(U 2 3),(U 2 4),(U 2 5)])]
def Gb:Tr:=.need (.call 170 [(.agg [(U 0 0),(U 0 1),(U 0 2),(U 0 3),(U 0 4),(U 0 5)]),(.agg [(U 1 0),(U 1 1),(U 1 2)]),(WK (1))] [(some 6)]) (.call ⟨.value (.func 170),#[(.tmp 5),(.tmp 6),(.const (I3 (1)))],#[81,30,3]⟩) 39 true Fo
theorem KA:aN prog f169 (fun _=>none) [.v (some 6), .v (some 3)]=Gb:=by kernel_rfl
def Em:Tr:=.ret [(.agg [(U 2 0),(U 2 1),(U 2 2),(U 2 3),(U 2 4),(U 2 5)])]
def Ej:Tr:=.need (.call 170 [(.agg [(U 0 0),(U 0 1),(U 0 2),(U 0 3),(U 0 4),(U 0 5)]),(.agg [(U 1 0),(U 1 1),(U 1 2)]),(WK (0))] [(some 6)]) (.call ⟨.value (.func 170),#[(.tmp 5),(.tmp 6),(.const (I3 (0)))],#[81,30,3]⟩) 39 true Em
theorem Li:aN prog f171 (fun _=>none) [.v (some 6), .v (some 3)]=Ej:=by kernel_rfl
def Fz:Tr:=.ret [(.agg [(U 2 0),(U 2 1),(U 2 2),(U 2 3),(U 2 4),(U 2 5)])]
def EP:Tr:=.need (.call 35 [(.agg [(U 0 0),(U 0 1),(U 0 2),(U 0 3),(U 0 4),(U 0 5)]),(.agg [(U 1 0),(U 1 1),(U 1 2)]),(WK (2))] [(some 6)]) (.call ⟨.value (.func 35),#[(.tmp 5),(.tmp 6),(.const (I3 (2)))],#[81,30,3]⟩) 39 true Fz
theorem KO:aN prog f173 (fun _=>none) [.v (some 6), .v (some 3)]=EP:=by kernel_rfl
def XR:Tr:=.need (.call 67 [(WK 1),(WK 3)] [(some 3)]) (.call ⟨.value (.func 67),#[(.const (I3 1)),(.const (I3 3))],#[2,2]⟩) 30 false (aI 92 [(G3 1)] [(some 6)] [4] [30] 39 false (.need (.call 106 [(G6 0),(G6 2),(tF false)] [(some 6)]) (.call ⟨.value (.func 106),#[(tT 3),(tT 5),(.const (.bool false))],#[81,39,4]⟩) 39 true (.need (.call 22 [(WK 2)] [(some 3)]) (.call ⟨.value (.func 22),#[(.const (I3 2))],#[2]⟩) 30 true (aI 108 [(G6 3),(G3 4)] [(some 6)] [6,7] [39,30] 39 true (.ret [(G6 5)])))))
theorem Wv:aN prog f194 (fun _=>none) [.v (some 6)]=XR:=by kernel_rfl
def Vd:Tr:=aI 108 [(G6 23),(G3 24)] [(some 6)] [38,39] [39,30] 39 false (aI 194 [(G6 0)] [(some 6)] [41] [81] 39 false (aI 22 [(W 9 0)] [(some 3)] [43] [2] 30 false (aI 108 [(G6 26),(G3 27)] [(some 6)] [42,44] [39,30] 39 false (aI 156 [(G6 25),(G6 28)] [(some 6)] [40,45] [39,39] 39 true (aI 107 [(G6 0),(G6 29)] [(some 6)] [32,46] [81,39] 39 true (.ret [(G6 30)]))))))
def UN:Tr:=aI 69 [] [(some 3)] [] [] 30 false (aI 100 [(.agg [(U 10 0),(U 11 0),(U 12 0)]),(G3 18)] [(some 3)] [28,29] [30,30] 30 true (aI 66 [(G3 17),(G3 19)] [(some 3)] [27,30] [30,30] 30 true (aI 92 [(G3 20)] [(some 6)] [35] [30] 39 false (aI 107 [(G6 0),(G6 21)] [(some 6)] [34,36] [81,39] 39 false (.need (.call 106 [(G6 0),(G6 22),(tF false)] [(some 6)]) (.call ⟨.value (.func 106),#[(tT 33),(tT 37),(.const (.bool false))],#[81,39,4]⟩) 39 false (.need (.call 22 [(WK 2)] [(some 3)]) (.call ⟨.value (.func 22),#[(.const (I3 2))],#[2]⟩) 30 false Vd))))))
def Ui:Tr:=aI 68 [(.agg [(U 10 0),(U 11 0),(U 12 0)]),(G3 13)] [none] [16,17] [30,30] 3 true (aX .lss 3 18 0 14 0 4 (.split (.u 15 0) (.need (.call 22 [(WK 2)] [(some 3)]) (.call ⟨.value (.func 22),#[(.const (I3 2))],#[2]⟩) 30 true (aI 32 [(.agg [(U 10 0),(U 11 0),(U 12 0)]),(G3 16)] [(some 3)] [22,23] [30,30] 30 true (aX .sub 2 20 1 9 0 2 (.back 0 [lV 18 0,lV 17 0,lV 17 1,lV 17 2])))) (aI 69 [] [(some 3)] [] [] 30 false (aI 72 [(.agg [(U 10 0),(U 11 0),(U 12 0)]),(G3 16)] [(some 3)] [25,26] [30,30] 30 false UN))))
def ZD:Tr:=aI 68 [(.agg [(U 3 0),(U 4 0),(U 5 0)]),(G3 6)] [none] [7,8] [30,30] 3 true (aX .gtr 3 9 0 7 0 4 (.split (.u 8 0) (.need (.call 101 [(WK 1)] [(some 3)]) (.call ⟨.value (.func 101),#[(.const (I3 1))],#[3]⟩) 30 true (aI 32 [(.agg [(U 3 0),(U 4 0),(U 5 0)]),(G3 9)] [(some 3)] [13,14] [30,30] 30 true (aX .add 2 11 1 2 0 2 (.back 0 [lV 11 0,lV 10 0,lV 10 1,lV 10 2])))) (.loop 0 [lV 2 0,lV 3 0,lV 4 0,lV 5 0] (.need (.call 67 [(WK 2),(WK 3)] [(some 3)]) (.call ⟨.value (.func 67),#[(.const (I3 2)),(.const (I3 3))],#[2,2]⟩) 30 false Ui))))
def Xm:Tr:=.loop 0 [lK 0,lV 1 0,lV 1 1,lV 1 2] (.need (.call 67 [(WK 4),(WK 3)] [(some 3)]) (.call ⟨.value (.func 67),#[(.const (I3 4)),(.const (I3 3))],#[2,2]⟩) 30 false ZD)
theorem XM:aN prog f168 (fun _=>none) [.v (some 6), .v (some 3)]=Xm:=by kernel_rfl
theorem MQ {P:Program} {T U ty:TypeId} {x y:Operand} {k:IntKind} {a b c:Int} (h:∀ w,(Op.intBits .and k a b).run P w = .ok (.int k c) w):aO P (.binOp .and T x y U) ty [.one (.int k a), .one (.int k b)] (.one (.int k c)):=
 iC rfl fun w=>by simp [binOp,h]
def MM (b i:Nat):Int:=(2*(i:Int)+1+(b:Int))*(2*(i:Int)+1+(b:Int)+1)
def ac3 (up down:Rat) (sq:Rat×Rat) (b:Nat) (p:Rat×Rat) (i:Nat):Rat×Rat:=mU up down (FF p (kA sq (aZ ((1:Int):Rat) ((MM b i:Int):Rat))))
theorem Lc (up down:Rat) (sq p:Rat×Rat) (b i:Nat) (A B U:Nat) (hb:b≤1) (hp1:Fit A p.1) (hp2:Fit A p.2) (hq1:Fit B sq.1) (hq2:Fit B sq.2) (hu:Fit U up) (hd:Fit U down) (hi:i≤100000:=by omega) (hA:1≤A:=by omega) (hB:1≤B:=by omega) (h:A+(B+64)+U+U≤4294967296:=by omega):aD prog 204 [(dK p:aE),(.one (.int .i64 i):aE),(.one (.bI ([.int .i64 b])):aE),(.one (.bI (eB up down)):aE),(.one (.bI (eB sq.1 sq.2)):aE)] (.ret [dK (ac3 up down sq b p i)]):=by
 refine dvr (ins:=[.v (dK p), .v (.one (.int .i64 i)), .ref ([.int .i64 b]), .ref (eB up down), .ref (eB sq.1 sq.2)]) func204 KW ?_;have h1f:Fit 1 ((1:Int):Rat):=Fit.int (by omega) (by omega);have hk0:0≤MM b i:=Int.mul_nonneg (by omega) (by omega);have hk1:MM b i≤200002*200003:=Int.mul_le_mul (by omega) (by omega) (by omega) (by omega);have hif:Fit 62 ((MM b i:Int):Rat):=Fit.int (by omega) (by omega);have hsc:=jA hq1 hq2 (eA h1f hif) hB;apply vn (cU) rfl;apply vn (aH) rfl;apply vn (aH) rfl;apply vn (aH) rfl;dsimp only [aF,aG];apply vn (cU (show -9223372036854775808≤MM b i by omega) (show MM b i<9223372036854775808 by omega)) rfl;apply aA (lQ 1 (MM b i)) rfl;apply aA (eN sq _ B (1+62) hq1 hq2 (eA h1f hif) hB) rfl;apply aA (mW up down p _ A (B+(1+62)) U hp1 hp2 hsc.1 hsc.2 hu hd hA) rfl;exact aK rfl
def ax3 (s:Rat×Rat) (b:Nat):Rat×Rat:=if b=1 then s else (((1:Int):Rat),((1:Int):Rat))
def Wm (up down:Rat) (s:Rat×Rat):Rat×Rat:=uB (mU up down (FF s s))
def pM (up down:Rat) (s:Rat×Rat) (b:Nat):Nat→Rat×Rat
 | 0=>ax3 s b
 | i+1=>ac3 up down (Wm up down s) b (pM up down s b i) i
structure NA (up down:Rat) (s:Rat×Rat) (b N W:Nat):Prop where
 hf:∀ i,i≤N→Fit W (pM up down s b i).1∧Fit W (pM up down s b i).2
 hgt:∀ i,i<N→down<(cS (pM up down s b i)).2
 hle:(cS (pM up down s b N)).2≤down
 hs:Fit W s.1∧Fit W s.2
 hq:Fit W (Wm up down s).1∧Fit W (Wm up down s).2
 hu:Fit W up∧Fit W down
 hN:N≤1000
 hW:4≤W∧W≤10000
def Sa (up down:Rat) (s:Rat×Rat) (b N:Nat):Rat×Rat:=nB (pM up down s b) N
theorem NA.fit {up down:Rat} {s:Rat×Rat} {b N W:Nat} (K:NA up down s b N W):Fit (1+(N+1)*(W+2+1)) (Sa up down s b N).1∧Fit (1+(N+1)*(W+2+1)) (Sa up down s b N).2:=sW K.hf K.hW.1
theorem PE (up down:Rat) (s:Rat×Rat) (b N W:Nat) (hb:b≤1) (K:NA up down s b N W):aD prog 195 [(gF up down:aE),(dK s:aE),(.one (.int .i64 b):aE)] (.ret [dK (Sa up down s b N)]):=by
 refine bU func195 OM ?_;obtain ⟨hf,hgt,hle,hs,hq,hu,hN,hW⟩:=K;have hsum:=QF (pM up down s b) N 204 [.bI [.int .i64 b], .bI (eB up down), .bI (eB (Wm up down s).1 (Wm up down s).2)] up down W (fun i hi=>Lc up down (Wm up down s) (pM up down s b i) b i W W W hb (hf i (by omega)).1 (hf i (by omega)).2 hq.1 hq.2 hu.1 hu.2) hf hu.2 hgt hle (by omega) (by omega) (by omega);apply aA bW rfl;apply aA (sJ _) rfl;apply vn aC rfl;refine vs _ rfl ?_ ?_<;>intro h3
 ·apply aA (mW up down s s W W W hs.1 hs.2 hs.1 hs.2 hu.1 hu.2) rfl;dsimp only [aF,aG];apply aA (mB _) rfl;dsimp only [aF,aG];rw [show pM up down s b 0=s from if_pos (by omega)] at hsum;apply aA hsum rfl;exact aK rfl
 apply aA (mW up down s s W W W hs.1 hs.2 hs.1 hs.2 hu.1 hu.2) rfl;apply aA (mB _) rfl;dsimp only [aF,aG];rw [show pM up down s b 0=(((1:Int):Rat),((1:Int):Rat)) from if_neg (by omega)] at hsum;apply aA hsum rfl;exact aK rfl
def Rc (up down:Rat) (Na Nb:Nat):Rat×Rat:=kA (VY up down Na Nb) (mkRat 1 (2^1))
def sH (up down x:Rat) (Na Nb n:Nat):Rat×Rat:=mU up down (Bc (x,x) (kA (Rc up down Na Nb) ((n:Int):Rat)))
def Mw (up down x:Rat) (Na Nb n tr c N:Nat):Rat×Rat:=if tr=1∨tr=2 then uB (Sa up down (sH up down x Na Nb n) c N) else Sa up down (sH up down x Na Nb n) c N
structure NV (up down x:Rat) (b Na Nb n tr c N W:Nat):Prop where
 Ka:cR up down (GL,GL) true Na W
 Kb:cR up down (f239,f239) true Nb W
 hp:Fit W (VY up down Na Nb).1∧Fit W (VY up down Na Nb).2
 hx:Fit W x
 h0:0<n∧n<1000000000
 hn:gT (aZ x (Rc up down Na Nb).1+mkRat 1 (2^1))=(n:Int)
 hb:b≤1∧c≤1
 ht:∀ w,(Op.intBits .and .i64 ((n:Int)-(b:Int)) 3).run prog w = .ok (.int .i64 (tr:Int)) w
 hc:∀ w,(Op.intBits .and .i64 (tr:Int) 1).run prog w = .ok (.int .i64 (c:Int)) w
 K:NA up down (sH up down x Na Nb n) c N W
theorem Hb (up down x:Rat) (b Na Nb n tr c N W:Nat) (K:NV up down x b Na Nb n tr c N W):aD prog 170 [(gF up down:aE),(qT x:aE),(.one (.int .i64 b):aE)] (.ret [dK (Mw up down x Na Nb n tr c N)]):=by
 refine bU func170 Pz ?_;obtain ⟨Ka,Kb,hp,hx,h0,hn,hb,ht,hc,K⟩:=K;have hu:=Ka.hu;have hW:=Ka.hB;have ff:Fit 3 (mkRat 1 (2^1)):=by decide +kernel
 have sq:=jA hp.1 hp.2 ff;have fq:=eA (A:=W) (B:=W+3) hx sq.1;have fa:=fq.add ff;have fn:Fit 64 ((n:Int):Rat):=kJ;have sn:=jA sq.1 sq.2 fn;have hs1:Fit (W+(W+3+64)+1) (Bc (x,x) (kA (Rc up down Na Nb) ((n:Int):Rat))).1:=by rw [Bc];exact (hx.add sn.2.neg).mono (by omega)
 have hs2:Fit (W+(W+3+64)+1) (Bc (x,x) (kA (Rc up down Na Nb) ((n:Int):Rat))).2:=by rw [Bc];exact (hx.add sn.1.neg).mono (by omega)
 apply aA (MR up down Na Nb W Ka Kb) rfl;apply aA (eS 1) rfl;apply aA (eN _ _ W 3 hp.1 hp.2 ff) rfl;apply aA (bD x _ W (W+3) hx sq.1) rfl;dsimp only [aF,aG];apply aA (eS 1) rfl;apply aA (hP _ (mkRat 1 (2^1)) (W+(W+3)) 3 fq ff) rfl;apply aA (fB _ _ fa) rfl;first|(rw [show gT (aZ x (kA (VY up down Na Nb) (mkRat 1 (2^(1:Int).toNat))).1+mkRat 1 (2^1))=(n:Int) from hn])|(rw [show gT (aZ x (kA (VY up down Na Nb) (mkRat 1 (2^1))).1+mkRat 1 (2^1))=(n:Int) from hn]);apply aA (sJ _) rfl;dsimp only [aF,aG];apply aA (eN _ _ (W+3) 64 sq.1 sq.2 fn) rfl;apply aA (QD (x,x) _ W (W+3+64) hx hx sn.1 sn.2) rfl;apply aA (oX up down _ _ W hs1 hs2 hu.1 hu.2) rfl;apply aA (kM n h0.1 h0.2) rfl;dsimp only [aF,aG];apply vn (aW) rfl;apply vn (MQ ht) rfl;apply vn (MQ hc) rfl;apply aA (PE up down (sH up down x Na Nb n) c N W hb.2 K) rfl;dsimp only [aF,aG];apply vn aC rfl;refine vs _ rfl ?_ ?_<;>intro h17
 ·apply aA (mB _) rfl;dsimp only [aF,aG];rw [Mw,if_pos (.inl (by omega))];exact aK rfl
 apply vn aC rfl;refine vs _ rfl ?_ ?_<;>intro h21
 ·apply aA (mB _) rfl;dsimp only [aF,aG];rw [Mw,if_pos (.inr (by omega))];exact aK rfl
 rw [Mw,if_neg (by omega)];exact aK rfl
theorem jP (up down x:Rat) (Na Nb n tr c N W:Nat) (K:NV up down x 1 Na Nb n tr c N W):aD prog 169 [(gF up down:aE),(qT x:aE)] (.ret [dK (Mw up down x Na Nb n tr c N)]):=by
 refine bU func169 KA ?_;apply aA (Hb up down x 1 Na Nb n tr c N W K) rfl;exact aK rfl
theorem gY (up down x:Rat) (Na Nb n tr c N W:Nat) (K:NV up down x 0 Na Nb n tr c N W):aD prog 171 [(gF up down:aE),(qT x:aE)] (.ret [dK (Mw up down x Na Nb n tr c N)]):=by
 refine bU func171 Li ?_;apply aA (Hb up down x 0 Na Nb n tr c N W K) rfl;exact aK rfl
theorem mI (x up down:Rat) (g r G A U:Nat) (hg:gT (x*up^2)=(g:Int)) (hr:r^2≤g) (hr2:g<(r+1)^2) (hG:g<2^G) (hx:Fit A x) (hu:Fit U up) (hd:Fit U down) (hU1:1≤U:=by omega) (hU:U≤100000:=by omega) (hA1:1≤A:=by omega) (hA:A≤10000000:=by omega) (hG2:G≤20000000:=by omega):aD prog 173 [(gF up down:aE),(qT x:aE)] (.ret [dK (kF x 2 down r)]):=by
 refine bU func173 KO ?_;apply aA (lI x 2 up down g r G A U hg hx hu hd hr hr2 hG hA1 hA hG2 (by omega) (by omega) hU1 hU) rfl;exact aK rfl
def f3:Rat:=aZ ((1:Int):Rat) ((3:Int):Rat)
def TE (up down:Rat) (N:Nat):Rat×Rat:=kA (nA up down (f3,f3) false N) ((2:Int):Rat)
theorem Xa (up down:Rat) (N B:Nat) (K:cR up down (f3,f3) false N B):aD prog 194 [(gF up down:aE)] (.ret [dK (TE up down N)]):=by
 refine bU func194 Wv ?_;have fa:=K.fit;obtain ⟨A0,hA0⟩:∃ A,A=1+(N+1)*(B+2+1):=⟨_,rfl⟩
 have b0:(N+1)*(B+2+1)≤1001*10003:=Nat.mul_le_mul (by have:=K.hN;omega) (by have:=K.hB;omega);rw [←hA0] at fa;have h2:Fit 6 ((2:Int):Rat):=Fit.int (by omega) (by omega);apply aA (lQ 1 3) rfl;apply aA (sJ _) rfl;apply aA (rD up down (f3,f3) false N B K) rfl;apply aA (aY 2) rfl;dsimp only [aF,aG];apply aA (eN _ _ A0 6 fa.1 fa.2 h2) rfl;exact aK rfl
def PY (x:Rat) (i:Nat):Rat:=if i=0 then x else x*mkRat 1 (2^1)
def lgY (x:Rat):Rat:=aZ (PY x 1-((1:Int):Rat)) (PY x 1+((1:Int):Rat))
def VR (up down x:Rat):Rat×Rat:=mU up down (lgY x,lgY x)
def lgV (up down x:Rat) (Na Nb:Nat):Rat×Rat:=mU up down (uJ (kA (nA up down (VR up down x) false Na) ((2:Int):Rat)) (kA (TE up down Nb) ((1:Int):Rat)))
theorem Mo (up down:Rat) (x:Rat) (Na Nb B:Nat) (h0:aZ ((4:Int):Rat) ((3:Int):Rat)<x) (h1:¬ aZ ((4:Int):Rat) ((3:Int):Rat)<PY x 1) (h2:¬ PY x 1<aZ ((2:Int):Rat) ((3:Int):Rat)) (hx:Fit B x) (hx1:Fit B (PY x 1)) (Ka:cR up down (VR up down x) false Na B) (Kb:cR up down (f3,f3) false Nb B):aD prog 168 [(gF up down:aE),(qT x:aE)] (.ret [dK (lgV up down x Na Nb)]):=by
 refine bU func168 XM ?_;have fa:=Ka.fit;have fb:=Kb.fit;obtain ⟨A0,hA0⟩:∃ A,A=1+(Na+1)*(B+2+1):=⟨_,rfl⟩
 obtain ⟨A1,hA1⟩:∃ A,A=1+(Nb+1)*(B+2+1):=⟨_,rfl⟩
 have b0:(Na+1)*(B+2+1)≤1001*10003:=Nat.mul_le_mul (by have:=Ka.hN;omega) (by have:=Ka.hB;omega);have b1:(Nb+1)*(B+2+1)≤1001*10003:=Nat.mul_le_mul (by have:=Kb.hN;omega) (by have:=Ka.hB;omega);have hB:=Ka.hB;have hu:=Ka.hu;rw [←hA0] at fa;rw [←hA1] at fb;have ff:Fit 3 (mkRat 1 (2^1)):=by decide +kernel
 have f43:Fit 4 (aZ ((4:Int):Rat) ((3:Int):Rat)):=by decide +kernel
 have f23:Fit 4 (aZ ((2:Int):Rat) ((3:Int):Rat)):=by decide +kernel
 have f1:Fit 1 ((1:Int):Rat):=Fit.int (by omega) (by omega);have f2:Fit 6 ((2:Int):Rat):=Fit.int (by omega) (by omega);have fy1:Fit (B+1+1) (PY x 1-((1:Int):Rat)):=hx1.sub f1;have fy2:Fit (B+1+1) (PY x 1+((1:Int):Rat)):=hx1.add f1;have fy:Fit (B+1+1+(B+1+1)) (lgY x):=eA fy1 fy2
 have hf:∀ i,i≤1→Fit B (PY x i):=fun i hi=>by
  rcases Nat.le_one_iff_eq_zero_or_eq_one.1 hi with e | e<;>subst e
  ·exact hx
  ·exact hx1
 have sa:=jA fa.1 fa.2 f2;have sb:=jA fb.1 fb.2 f2;have sc:=jA sb.1 sb.2 f1;have e1:Fit (A0+A1+50) (uJ (kA (nA up down (VR up down x) false Na) ((2:Int):Rat)) (kA (TE up down Nb) ((1:Int):Rat))).1:=by rw [uJ];exact (sa.1.add sc.1).mono (by omega)
 have e2:Fit (A0+A1+50) (uJ (kA (nA up down (VR up down x) false Na) ((2:Int):Rat)) (kA (TE up down Nb) ((1:Int):Rat))).2:=by rw [uJ];exact (sa.2.add sc.2).mono (by omega)
 refine cT {i:Nat // i≤1} (fun g=>(.one (.int .i64 (g.1:Int)):aE)::(qC (PY x g.1)).map .one) (fun g=>1-g.1) ⟨0,fP _⟩ aV.rfl (fun _=>rfl) ?_;rintro ⟨i,hi⟩;dsimp only [aF,aG,List.map] at hi ⊢;apply aA (lQ 4 3) rfl;apply aA (bE (PY x i) _ B 4 (hf i hi) f43) rfl;apply vn bJ rfl;refine vs _ rfl ?_ ?_<;>intro h4
 ·have hi0:i=0:=by
   rcases Nat.le_one_iff_eq_zero_or_eq_one.1 hi with e | e
   ·exact e
   ·subst e;exact absurd (gU.1 h4) h1
  subst hi0;apply aA (eS 1) rfl;dsimp only [aF,aG];apply aA (bG x _ B 3 hx ff) rfl;apply vn (aH) rfl;dsimp only [aF,aG];exact bF rfl ⟨⟨1,by omega⟩,aV.rfl,by show 1-1<1-0;omega⟩
 have hi1:i=1:=by
  rcases Nat.le_one_iff_eq_zero_or_eq_one.1 hi with e | e
  ·subst e;exact absurd (gU.2 h0) h4
  ·exact e
 subst hi1;refine cT Unit (fun _=>(.one (.int .i64 ((1:Nat):Int)):aE)::(qC (PY x 1)).map .one) (fun _=>0) () aV.rfl (fun _=>rfl) ?_;rintro ⟨⟩;dsimp only [aF,aG,List.map];apply aA (lQ 2 3) rfl;apply aA (bE (PY x 1) _ B 4 hx1 f23) rfl;apply vn bA rfl;refine vs _ rfl ?_ ?_<;>intro h13
 ·exact absurd (kX.1 h13) h2
 apply aA bW rfl;dsimp only [aF,aG];apply aA (jW _ _ B 1 hx1 f1) rfl;apply aA bW rfl;apply aA (hP _ ((1:Int):Rat) B 1 hx1 f1) rfl;apply aA (bD _ _ _ _ fy1 fy2) rfl;dsimp only [aF,aG];apply aA (sJ _) rfl;apply aA (oX up down (lgY x,lgY x) _ B fy fy hu.1 hu.2) rfl;apply aA (rD up down (VR up down x) false Na B Ka) rfl;apply aA (aY 2) rfl;dsimp only [aF,aG];apply aA (eN _ _ A0 6 fa.1 fa.2 f2) rfl;apply aA (Xa up down Nb B Kb) rfl;apply aA (aY ((1:Nat):Int)) rfl;apply aA (eN _ _ (A1+6) 1 sb.1 sb.2 f1) rfl;dsimp only [aF,aG];apply aA (Jn _ _ _ _ (A0+6) (A1+6+1) sa.1 sa.2 sc.1 sc.2) rfl;apply aA (oX up down _ (A0+A1+50) B e1 e2 hu.1 hu.2) rfl;exact aK rfl
open Go Go.Proofs Tryz Ord
theorem PW  :aD prog 81 [(.one (.int .u8 3):aE),(qT ((0:Rat)):aE)] (.ret [.one (.int .i64 0)]):=by
 refine bU func81 cQ ?_;apply aA (aY 1000) rfl;apply vn aC rfl;refine aQ false rfl (fun h=>by cases h) (fun _=>?_);apply vn bA rfl;refine aQ false rfl (fun h=>by cases h) (fun _=>?_);apply vn bJ rfl;dsimp only [aF,aG];refine aQ false rfl (fun h=>by cases h) (fun _=>?_);apply vn aC rfl;refine aQ false rfl (fun h=>by cases h) (fun _=>?_);apply vn aC rfl;refine aQ false rfl (fun h=>by cases h) (fun _=>?_);apply vn aC rfl;refine aQ false rfl (fun h=>by cases h) (fun _=>?_);apply vn aC rfl;dsimp only [aF,aG];refine aQ true rfl (fun _=>?_) (fun h=>by cases h);apply aA (fZ ((0:Rat))) rfl;apply aA (bE ((0:Rat)).abs ((1000:Int):Rat) 8 16 ⟨by decide +kernel,by decide +kernel⟩ ⟨by decide +kernel,by decide +kernel⟩) rfl;rw [show dM ((0:Rat)).abs ((1000:Int):Rat) = -1 by decide +kernel];apply vn bJ rfl;refine aQ false rfl (fun h=>by cases h) (fun _=>?_);exact aK rfl
theorem PN  :aD prog 81 [(.one (.int .u8 3):aE),(qT (((2:Int):Rat)):aE)] (.ret [.one (.int .i64 0)]):=by
 refine bU func81 cQ ?_;apply aA (aY 1000) rfl;apply vn aC rfl;refine aQ false rfl (fun h=>by cases h) (fun _=>?_);apply vn bA rfl;refine aQ false rfl (fun h=>by cases h) (fun _=>?_);apply vn bJ rfl;dsimp only [aF,aG];refine aQ false rfl (fun h=>by cases h) (fun _=>?_);apply vn aC rfl;refine aQ false rfl (fun h=>by cases h) (fun _=>?_);apply vn aC rfl;refine aQ false rfl (fun h=>by cases h) (fun _=>?_);apply vn aC rfl;refine aQ false rfl (fun h=>by cases h) (fun _=>?_);apply vn aC rfl;dsimp only [aF,aG];refine aQ true rfl (fun _=>?_) (fun h=>by cases h);apply aA (fZ (((2:Int):Rat))) rfl;apply aA (bE (((2:Int):Rat)).abs ((1000:Int):Rat) 8 16 ⟨by decide +kernel,by decide +kernel⟩ ⟨by decide +kernel,by decide +kernel⟩) rfl;rw [show dM (((2:Int):Rat)).abs ((1000:Int):Rat) = -1 by decide +kernel];apply vn bJ rfl;refine aQ false rfl (fun h=>by cases h) (fun _=>?_);exact aK rfl
theorem PU  :aD prog 81 [(.one (.int .u8 4):aE),(qT (((3:Int):Rat)):aE)] (.ret [.one (.int .i64 0)]):=by
 refine bU func81 cQ ?_;apply aA (aY 1000) rfl;apply vn aC rfl;refine aQ false rfl (fun h=>by cases h) (fun _=>?_);apply vn bA rfl;refine aQ false rfl (fun h=>by cases h) (fun _=>?_);apply vn bJ rfl;dsimp only [aF,aG];refine aQ false rfl (fun h=>by cases h) (fun _=>?_);apply vn aC rfl;refine aQ false rfl (fun h=>by cases h) (fun _=>?_);apply vn aC rfl;refine aQ false rfl (fun h=>by cases h) (fun _=>?_);apply vn aC rfl;refine aQ false rfl (fun h=>by cases h) (fun _=>?_);apply vn aC rfl;dsimp only [aF,aG];refine aQ false rfl (fun h=>by cases h) (fun _=>?_);apply vn aC rfl;refine aQ true rfl (fun _=>?_) (fun h=>by cases h);apply aA (fZ (((3:Int):Rat))) rfl;apply aA (bE (((3:Int):Rat)).abs ((1000:Int):Rat) 8 16 ⟨by decide +kernel,by decide +kernel⟩ ⟨by decide +kernel,by decide +kernel⟩) rfl;rw [show dM (((3:Int):Rat)).abs ((1000:Int):Rat) = -1 by decide +kernel];apply vn bJ rfl;dsimp only [aF,aG];refine aQ false rfl (fun h=>by cases h) (fun _=>?_);exact aK rfl
theorem PT  :aD prog 81 [(.one (.int .u8 4):aE),(qT (((4:Int):Rat)):aE)] (.ret [.one (.int .i64 0)]):=by
 refine bU func81 cQ ?_;apply aA (aY 1000) rfl;apply vn aC rfl;refine aQ false rfl (fun h=>by cases h) (fun _=>?_);apply vn bA rfl;refine aQ false rfl (fun h=>by cases h) (fun _=>?_);apply vn bJ rfl;dsimp only [aF,aG];refine aQ false rfl (fun h=>by cases h) (fun _=>?_);apply vn aC rfl;refine aQ false rfl (fun h=>by cases h) (fun _=>?_);apply vn aC rfl;refine aQ false rfl (fun h=>by cases h) (fun _=>?_);apply vn aC rfl;refine aQ false rfl (fun h=>by cases h) (fun _=>?_);apply vn aC rfl;dsimp only [aF,aG];refine aQ false rfl (fun h=>by cases h) (fun _=>?_);apply vn aC rfl;refine aQ true rfl (fun _=>?_) (fun h=>by cases h);apply aA (fZ (((4:Int):Rat))) rfl;apply aA (bE (((4:Int):Rat)).abs ((1000:Int):Rat) 8 16 ⟨by decide +kernel,by decide +kernel⟩ ⟨by decide +kernel,by decide +kernel⟩) rfl;rw [show dM (((4:Int):Rat)).abs ((1000:Int):Rat) = -1 by decide +kernel];apply vn bJ rfl;dsimp only [aF,aG];refine aQ false rfl (fun h=>by cases h) (fun _=>?_);exact aK rfl
theorem GG  :aD prog 81 [(.one (.int .u8 2):aE),(qT (((2:Int):Rat)):aE)] (.ret [.one (.int .i64 0)]):=by
 refine bU func81 cQ ?_;apply aA (aY 1000) rfl;apply vn aC rfl;refine aQ false rfl (fun h=>by cases h) (fun _=>?_);apply vn bA rfl;refine aQ false rfl (fun h=>by cases h) (fun _=>?_);apply vn bJ rfl;dsimp only [aF,aG];refine aQ false rfl (fun h=>by cases h) (fun _=>?_);apply vn aC rfl;refine aQ true rfl (fun _=>?_) (fun h=>by cases h);apply aA (bB (((2:Int):Rat))) rfl;rw [show (((2:Int):Rat)).num.sign=1 by decide +kernel];apply vn jF rfl;refine aQ false rfl (fun h=>by cases h) (fun _=>?_);apply vn aC rfl;dsimp only [aF,aG];refine aQ false rfl (fun h=>by cases h) (fun _=>?_);apply vn aC rfl;refine aQ false rfl (fun h=>by cases h) (fun _=>?_);apply vn aC rfl;refine aQ false rfl (fun h=>by cases h) (fun _=>?_);apply vn aC rfl;refine aQ false rfl (fun h=>by cases h) (fun _=>?_);exact aK rfl
theorem Pr  :aD prog 81 [(.one (.int .u8 3):aE),(qT (((-1:Int):Rat)):aE)] (.ret [.one (.int .i64 0)]):=by
 refine bU func81 cQ ?_;apply aA (aY 1000) rfl;apply vn aC rfl;refine aQ false rfl (fun h=>by cases h) (fun _=>?_);apply vn bA rfl;refine aQ false rfl (fun h=>by cases h) (fun _=>?_);apply vn bJ rfl;dsimp only [aF,aG];refine aQ false rfl (fun h=>by cases h) (fun _=>?_);apply vn aC rfl;refine aQ false rfl (fun h=>by cases h) (fun _=>?_);apply vn aC rfl;refine aQ false rfl (fun h=>by cases h) (fun _=>?_);apply vn aC rfl;refine aQ false rfl (fun h=>by cases h) (fun _=>?_);apply vn aC rfl;dsimp only [aF,aG];refine aQ true rfl (fun _=>?_) (fun h=>by cases h);apply aA (fZ (((-1:Int):Rat))) rfl;apply aA (bE (((-1:Int):Rat)).abs ((1000:Int):Rat) 8 16 ⟨by decide +kernel,by decide +kernel⟩ ⟨by decide +kernel,by decide +kernel⟩) rfl;rw [show dM (((-1:Int):Rat)).abs ((1000:Int):Rat) = -1 by decide +kernel];apply vn bJ rfl;refine aQ false rfl (fun h=>by cases h) (fun _=>?_);exact aK rfl
theorem Pm  :aD prog 81 [(.one (.int .u8 3):aE),(qT (((1:Int):Rat)):aE)] (.ret [.one (.int .i64 0)]):=by
 refine bU func81 cQ ?_;apply aA (aY 1000) rfl;apply vn aC rfl;refine aQ false rfl (fun h=>by cases h) (fun _=>?_);apply vn bA rfl;refine aQ false rfl (fun h=>by cases h) (fun _=>?_);apply vn bJ rfl;dsimp only [aF,aG];refine aQ false rfl (fun h=>by cases h) (fun _=>?_);apply vn aC rfl;refine aQ false rfl (fun h=>by cases h) (fun _=>?_);apply vn aC rfl;refine aQ false rfl (fun h=>by cases h) (fun _=>?_);apply vn aC rfl;refine aQ false rfl (fun h=>by cases h) (fun _=>?_);apply vn aC rfl;dsimp only [aF,aG];refine aQ true rfl (fun _=>?_) (fun h=>by cases h);apply aA (fZ (((1:Int):Rat))) rfl;apply aA (bE (((1:Int):Rat)).abs ((1000:Int):Rat) 8 16 ⟨by decide +kernel,by decide +kernel⟩ ⟨by decide +kernel,by decide +kernel⟩) rfl;rw [show dM (((1:Int):Rat)).abs ((1000:Int):Rat) = -1 by decide +kernel];apply vn bJ rfl;refine aQ false rfl (fun h=>by cases h) (fun _=>?_);exact aK rfl
theorem PK  :aD prog 81 [(.one (.int .u8 4):aE),(qT (((1:Int):Rat)):aE)] (.ret [.one (.int .i64 0)]):=by
 refine bU func81 cQ ?_;apply aA (aY 1000) rfl;apply vn aC rfl;refine aQ false rfl (fun h=>by cases h) (fun _=>?_);apply vn bA rfl;refine aQ false rfl (fun h=>by cases h) (fun _=>?_);apply vn bJ rfl;dsimp only [aF,aG];refine aQ false rfl (fun h=>by cases h) (fun _=>?_);apply vn aC rfl;refine aQ false rfl (fun h=>by cases h) (fun _=>?_);apply vn aC rfl;refine aQ false rfl (fun h=>by cases h) (fun _=>?_);apply vn aC rfl;refine aQ false rfl (fun h=>by cases h) (fun _=>?_);apply vn aC rfl;dsimp only [aF,aG];refine aQ false rfl (fun h=>by cases h) (fun _=>?_);apply vn aC rfl;refine aQ true rfl (fun _=>?_) (fun h=>by cases h);apply aA (fZ (((1:Int):Rat))) rfl;apply aA (bE (((1:Int):Rat)).abs ((1000:Int):Rat) 8 16 ⟨by decide +kernel,by decide +kernel⟩ ⟨by decide +kernel,by decide +kernel⟩) rfl;rw [show dM (((1:Int):Rat)).abs ((1000:Int):Rat) = -1 by decide +kernel];apply vn bJ rfl;dsimp only [aF,aG];refine aQ false rfl (fun h=>by cases h) (fun _=>?_);exact aK rfl
theorem Ph  :aD prog 81 [(.one (.int .u8 5):aE),(qT (aZ ((1:Int):Rat) ((2:Int):Rat)):aE)] (.ret [.one (.int .i64 0)]):=by
 refine bU func81 cQ ?_;apply aA (aY 1000) rfl;apply vn aC rfl;refine aQ false rfl (fun h=>by cases h) (fun _=>?_);apply vn bA rfl;refine aQ false rfl (fun h=>by cases h) (fun _=>?_);apply vn bJ rfl;dsimp only [aF,aG];refine aQ false rfl (fun h=>by cases h) (fun _=>?_);apply vn aC rfl;refine aQ false rfl (fun h=>by cases h) (fun _=>?_);apply vn aC rfl;refine aQ false rfl (fun h=>by cases h) (fun _=>?_);apply vn aC rfl;refine aQ false rfl (fun h=>by cases h) (fun _=>?_);apply vn aC rfl;dsimp only [aF,aG];refine aQ false rfl (fun h=>by cases h) (fun _=>?_);apply vn aC rfl;refine aQ false rfl (fun h=>by cases h) (fun _=>?_);exact aK rfl
theorem Oz  :aD prog 81 [(.one (.int .u8 6):aE),(qT (((2:Int):Rat)):aE)] (.ret [.one (.int .i64 0)]):=by
 refine bU func81 cQ ?_;apply aA (aY 1000) rfl;apply vn aC rfl;refine aQ false rfl (fun h=>by cases h) (fun _=>?_);apply vn bA rfl;refine aQ false rfl (fun h=>by cases h) (fun _=>?_);apply vn bJ rfl;dsimp only [aF,aG];refine aQ false rfl (fun h=>by cases h) (fun _=>?_);apply vn aC rfl;refine aQ false rfl (fun h=>by cases h) (fun _=>?_);apply vn aC rfl;refine aQ true rfl (fun _=>?_) (fun h=>by cases h);apply aA (bB (((2:Int):Rat))) rfl;rw [show (((2:Int):Rat)).num.sign=1 by decide +kernel];apply vn bA rfl;dsimp only [aF,aG];refine aQ false rfl (fun h=>by cases h) (fun _=>?_);apply vn aC rfl;refine aQ false rfl (fun h=>by cases h) (fun _=>?_);apply vn aC rfl;refine aQ false rfl (fun h=>by cases h) (fun _=>?_);apply vn aC rfl;refine aQ false rfl (fun h=>by cases h) (fun _=>?_);exact aK rfl
theorem OU  :aD prog 81 [(.one (.int .u8 2):aE),(qT ((0:Rat)):aE)] (.ret [.one (.int .i64 11)]):=by
 refine bU func81 cQ ?_;apply aA (aY 1000) rfl;apply vn aC rfl;refine aQ false rfl (fun h=>by cases h) (fun _=>?_);apply vn bA rfl;refine aQ false rfl (fun h=>by cases h) (fun _=>?_);apply vn bJ rfl;dsimp only [aF,aG];refine aQ false rfl (fun h=>by cases h) (fun _=>?_);apply vn aC rfl;refine aQ true rfl (fun _=>?_) (fun h=>by cases h);apply aA (bB ((0:Rat))) rfl;rw [show ((0:Rat)).num.sign=0 by decide +kernel];apply vn jF rfl;refine aQ true rfl (fun _=>?_) (fun h=>by cases h);exact aK rfl
theorem Mp  :aD prog 81 [(.one (.int .u8 1):aE),(qT (((65:Int):Rat)):aE)] (.ret [.one (.int .i64 3)]):=by
 refine bU func81 cQ ?_;apply aA (aY 1000) rfl;apply vn aC rfl;refine aQ true rfl (fun _=>?_) (fun h=>by cases h);apply aA (aY 64) rfl;apply vn bA rfl;dsimp only [aF,aG];refine aQ false rfl (fun h=>by cases h) (fun _=>?_);apply vn bJ rfl;refine aQ false rfl (fun h=>by cases h) (fun _=>?_);apply vn aC rfl;refine aQ false rfl (fun h=>by cases h) (fun _=>?_);apply vn aC rfl;refine aQ false rfl (fun h=>by cases h) (fun _=>?_);apply vn aC rfl;dsimp only [aF,aG];refine aQ true rfl (fun _=>?_) (fun h=>by cases h);apply aA (fZ (((65:Int):Rat))) rfl;apply aA (bE (((65:Int):Rat)).abs ((64:Int):Rat) 8 16 ⟨by decide +kernel,by decide +kernel⟩ ⟨by decide +kernel,by decide +kernel⟩) rfl;rw [show dM (((65:Int):Rat)).abs ((64:Int):Rat)=1 by decide +kernel];apply vn bJ rfl;refine aQ true rfl (fun _=>?_) (fun h=>by cases h);exact aK rfl
theorem OF  :aD prog 81 [(.one (.int .u8 6):aE),(qT (((-1:Int):Rat)):aE)] (.ret [.one (.int .i64 11)]):=by
 refine bU func81 cQ ?_;apply aA (aY 1000) rfl;apply vn aC rfl;refine aQ false rfl (fun h=>by cases h) (fun _=>?_);apply vn bA rfl;refine aQ false rfl (fun h=>by cases h) (fun _=>?_);apply vn bJ rfl;dsimp only [aF,aG];refine aQ false rfl (fun h=>by cases h) (fun _=>?_);apply vn aC rfl;refine aQ false rfl (fun h=>by cases h) (fun _=>?_);apply vn aC rfl;refine aQ true rfl (fun _=>?_) (fun h=>by cases h);apply aA (bB (((-1:Int):Rat))) rfl;rw [show (((-1:Int):Rat)).num.sign = -1 by decide +kernel];apply vn bA rfl;dsimp only [aF,aG];refine aQ true rfl (fun _=>?_) (fun h=>by cases h);exact aK rfl
theorem Ps  :aD prog 81 [(.one (.int .u8 7):aE),(qT ((0:Rat)):aE)] (.ret [.one (.int .i64 2)]):=by
 refine bU func81 cQ ?_;apply aA (aY 1000) rfl;apply vn aC rfl;refine aQ false rfl (fun h=>by cases h) (fun _=>?_);apply vn bA rfl;refine aQ false rfl (fun h=>by cases h) (fun _=>?_);apply vn bJ rfl;dsimp only [aF,aG];refine aQ true rfl (fun _=>?_) (fun h=>by cases h);exact aK rfl
theorem Pj  :aD prog 87 [(.agg (.int .u8 3::qC ((0:Rat))):aE)] (.ret [qT (0), .one (.bool true)]):=by
 refine bU func87 eP ?_;apply vn aC rfl;refine aQ false rfl (fun h=>by cases h) (fun _=>?_);apply vn aC rfl;refine aQ false rfl (fun h=>by cases h) (fun _=>?_);apply vn aC rfl;refine aQ false rfl (fun h=>by cases h) (fun _=>?_);apply vn aC rfl;dsimp only [aF,aG];refine aQ false rfl (fun h=>by cases h) (fun _=>?_);apply aA (bB _) rfl;rw [show ((0:Rat)).num.sign=0 by decide +kernel];apply vn aC rfl;exact iG ⟨mN,aE.Sub.same,trivial⟩
theorem PM  :aD prog 87 [(.agg (.int .u8 3::qC (((2:Int):Rat))):aE)] (.ret [qT (0), .one (.bool false)]):=by
 refine bU func87 eP ?_;apply vn aC rfl;refine aQ false rfl (fun h=>by cases h) (fun _=>?_);apply vn aC rfl;refine aQ false rfl (fun h=>by cases h) (fun _=>?_);apply vn aC rfl;refine aQ false rfl (fun h=>by cases h) (fun _=>?_);apply vn aC rfl;dsimp only [aF,aG];refine aQ false rfl (fun h=>by cases h) (fun _=>?_);apply aA (bB _) rfl;rw [show (((2:Int):Rat)).num.sign=1 by decide +kernel];apply vn aC rfl;exact iG ⟨mN,aE.Sub.same,trivial⟩
theorem OD  :aD prog 87 [(.agg (.int .u8 3::qC (((1:Int):Rat))):aE)] (.ret [qT (0), .one (.bool false)]):=by
 refine bU func87 eP ?_;apply vn aC rfl;refine aQ false rfl (fun h=>by cases h) (fun _=>?_);apply vn aC rfl;refine aQ false rfl (fun h=>by cases h) (fun _=>?_);apply vn aC rfl;refine aQ false rfl (fun h=>by cases h) (fun _=>?_);apply vn aC rfl;dsimp only [aF,aG];refine aQ false rfl (fun h=>by cases h) (fun _=>?_);apply aA (bB _) rfl;rw [show (((1:Int):Rat)).num.sign=1 by decide +kernel];apply vn aC rfl;exact iG ⟨mN,aE.Sub.same,trivial⟩
theorem OE  :aD prog 87 [(.agg (.int .u8 5::qC (aZ ((1:Int):Rat) ((2:Int):Rat))):aE)] (.ret [qT (0), .one (.bool false)]):=by
 refine bU func87 eP ?_;apply vn aC rfl;refine aQ false rfl (fun h=>by cases h) (fun _=>?_);apply vn aC rfl;refine aQ false rfl (fun h=>by cases h) (fun _=>?_);apply vn aC rfl;refine aQ false rfl (fun h=>by cases h) (fun _=>?_);apply vn aC rfl;dsimp only [aF,aG];refine aQ false rfl (fun h=>by cases h) (fun _=>?_);apply aA (bB _) rfl;rw [show (aZ ((1:Int):Rat) ((2:Int):Rat)).num.sign=1 by decide +kernel];apply vn aC rfl;exact iG ⟨mN,aE.Sub.same,trivial⟩
theorem Pc  :aD prog 87 [(.agg (.int .u8 4::qC (((3:Int):Rat))):aE)] (.ret [qT (((1:Int):Rat)), .one (.bool false)]):=by
 refine bU func87 eP ?_;apply vn aC rfl;refine aQ false rfl (fun h=>by cases h) (fun _=>?_);apply vn aC rfl;refine aQ true rfl (fun _=>?_) (fun h=>by cases h);apply aA bW rfl;apply aA (bB _) rfl;rw [show (((3:Int):Rat)).num.sign=1 by decide +kernel];dsimp only [aF,aG];apply vn aC rfl;exact aK rfl
theorem OI  :aD prog 87 [(.agg (.int .u8 4::qC (((4:Int):Rat))):aE)] (.ret [qT (((1:Int):Rat)), .one (.bool false)]):=by
 refine bU func87 eP ?_;apply vn aC rfl;refine aQ false rfl (fun h=>by cases h) (fun _=>?_);apply vn aC rfl;refine aQ true rfl (fun _=>?_) (fun h=>by cases h);apply aA bW rfl;apply aA (bB _) rfl;rw [show (((4:Int):Rat)).num.sign=1 by decide +kernel];dsimp only [aF,aG];apply vn aC rfl;exact aK rfl
theorem PJ  :aD prog 87 [(.agg (.int .u8 4::qC (((1:Int):Rat))):aE)] (.ret [qT (((1:Int):Rat)), .one (.bool false)]):=by
 refine bU func87 eP ?_;apply vn aC rfl;refine aQ false rfl (fun h=>by cases h) (fun _=>?_);apply vn aC rfl;refine aQ true rfl (fun _=>?_) (fun h=>by cases h);apply aA bW rfl;apply aA (bB _) rfl;rw [show (((1:Int):Rat)).num.sign=1 by decide +kernel];dsimp only [aF,aG];apply vn aC rfl;exact aK rfl
theorem GA  :aD prog 87 [(.agg (.int .u8 2::qC (((2:Int):Rat))):aE)] (.ret [qT (0), .one (.bool false)]):=by
 refine bU func87 eP ?_;apply vn aC rfl;refine aQ false rfl (fun h=>by cases h) (fun _=>?_);apply vn aC rfl;refine aQ false rfl (fun h=>by cases h) (fun _=>?_);apply vn aC rfl;refine aQ true rfl (fun _=>?_) (fun h=>by cases h);apply aA bW rfl;dsimp only [aF,aG];apply aA (bE (((2:Int):Rat)) ((1:Int):Rat) 8 16 ⟨by decide +kernel,by decide +kernel⟩ ⟨by decide +kernel,by decide +kernel⟩) rfl;rw [show dM (((2:Int):Rat)) ((1:Int):Rat)=1 by decide +kernel];apply vn aC rfl;exact iG ⟨mN,aE.Sub.same,trivial⟩
theorem OB  :aD prog 87 [(.agg (.int .u8 6::qC (((2:Int):Rat))):aE)] (.ret [qT (aZ 1 1), .one (.bool false)]):=by
 refine bU func87 eP ?_;apply vn aC rfl;refine aQ false rfl (fun h=>by cases h) (fun _=>?_);apply vn aC rfl;refine aQ false rfl (fun h=>by cases h) (fun _=>?_);apply vn aC rfl;refine aQ false rfl (fun h=>by cases h) (fun _=>?_);apply vn aC rfl;dsimp only [aF,aG];refine aQ true rfl (fun _=>?_) (fun h=>by cases h);apply aA (lH 0) rfl;apply aA (RK _) rfl;rw [show (((2:Int):Rat)).num=2 by decide +kernel];apply aA (lI (((2:Int):Rat)) 2 (aP 0) (bZ 0) 2 1 4 8 8 (by decide +kernel) ⟨by decide +kernel,by decide +kernel⟩ ⟨by decide +kernel,by decide +kernel⟩ ⟨by decide +kernel,by decide +kernel⟩) rfl;rw [show kF ((2:Int):Rat) 2 (bZ 0) 1=(1,2) by decide +kernel];apply aA (lH 0) rfl;dsimp only [aF,aG];apply aA (Rn _ 8 ⟨by decide +kernel,by decide +kernel⟩) rfl;rw [show (((2:Int):Rat)).den=1 by decide +kernel];apply aA (lI (((1:Nat):Int):Rat) 2 (aP 0) (bZ 0) 1 1 4 8 8 (by decide +kernel) ⟨by decide +kernel,by decide +kernel⟩ ⟨by decide +kernel,by decide +kernel⟩ ⟨by decide +kernel,by decide +kernel⟩) rfl;rw [show kF (((1:Nat):Int):Rat) 2 (bZ 0) 1=(1,1) by decide +kernel];apply aA (bD 1 1 8 8 ⟨by decide +kernel,by decide +kernel⟩ ⟨by decide +kernel,by decide +kernel⟩) rfl;apply aA (nC 1 2 8 8 ⟨by decide +kernel,by decide +kernel⟩ ⟨by decide +kernel,by decide +kernel⟩) rfl;rw [show (2:Rat)-1=1 by decide +kernel];dsimp only [aF,aG];apply aA (bB 1) rfl;rw [show (1:Rat).num.sign=1 by decide +kernel];apply vn aC rfl;refine aQ false rfl (fun h=>by cases h) (fun _=>?_);exact aK rfl
open Go Go.Proofs Tryz Ord
theorem OK  :aD prog 127 [(qT ((0:Int):Rat):aE)] (.ret [.one (.int .i64 0), .one (.bool true)]):=by
 refine bU func127 tO ?_;have hzf:Fit 64 ((0:Int):Rat):=by decide +kernel
 apply aA (hC (((0:Int):Rat).den-1)) rfl;rw [show decide (((0:Int):Rat).den-1=0)=true from rfl];apply vn oE rfl;refine aQ false rfl (fun h=>by cases h) (fun _=>?_);apply aA (aY (-9223372036854775808)) rfl;apply aA (bE ((0:Int):Rat) ((-9223372036854775808:Int):Rat) 64 64 hzf (Fit.int (by omega) (by decide))) rfl;dsimp only [aF,aG];apply vn bA rfl;refine vs _ rfl ?_ ?_<;>intro h7
 ·exact absurd (Rat.intCast_lt_intCast.1 (kX.1 h7)) (by omega)
 apply aA (aY 9223372036854775807) rfl;apply aA (bE ((0:Int):Rat) ((9223372036854775807:Int):Rat) 64 64 hzf (Fit.int (by omega) (by decide))) rfl;apply vn bJ rfl;dsimp only [aF,aG];refine vs _ rfl ?_ ?_<;>intro h12
 ·exact absurd (Rat.intCast_lt_intCast.1 (gU.1 h12)) (by omega)
 apply vn (cF cI (show (rT (dg ((0:Int):Rat).num.natAbs)).length=0 by rw [show ((0:Int):Rat).num.natAbs=0 from rfl,oL.2 rfl];rfl)) rfl;apply vn (aW) rfl;refine cT Unit (fun _=>[.one (.int .i64 0), .one (.int .i64 (-1))]) (fun _=>0) () aV.rfl (fun _=>rfl) ?_;rintro ⟨⟩;dsimp only [aF,aG];apply vn iE rfl;refine vs _ rfl ?_ ?_<;>intro h18
 ·exact absurd h18 (by decide)
 exact aK rfl
theorem ON  :aD prog 127 [(qT ((-1:Int):Rat):aE)] (.ret [.one (.int .i64 (-1)), .one (.bool true)]):=by
 refine bU func127 tO ?_;have hzf:Fit 64 ((-1:Int):Rat):=by decide +kernel
 apply aA (hC (((-1:Int):Rat).den-1)) rfl;rw [show decide (((-1:Int):Rat).den-1=0)=true from rfl];apply vn oE rfl;refine aQ false rfl (fun h=>by cases h) (fun _=>?_);apply aA (aY (-9223372036854775808)) rfl;apply aA (bE ((-1:Int):Rat) ((-9223372036854775808:Int):Rat) 64 64 hzf (Fit.int (by omega) (by decide))) rfl;dsimp only [aF,aG];apply vn bA rfl;refine vs _ rfl ?_ ?_<;>intro h7
 ·exact absurd (Rat.intCast_lt_intCast.1 (kX.1 h7)) (by omega)
 apply aA (aY 9223372036854775807) rfl;apply aA (bE ((-1:Int):Rat) ((9223372036854775807:Int):Rat) 64 64 hzf (Fit.int (by omega) (by decide))) rfl;apply vn bJ rfl;dsimp only [aF,aG];refine vs _ rfl ?_ ?_<;>intro h12
 ·exact absurd (Rat.intCast_lt_intCast.1 (gU.1 h12)) (by omega)
 apply vn (cF cI (show (rT (dg ((-1:Int):Rat).num.natAbs)).length=1 by rw [show ((-1:Int):Rat).num.natAbs=1 from rfl,iB];rfl)) rfl;apply vn (aW) rfl;refine cT {p:Int×Int // p=(0,0)∨p=(-1,-1)} (fun g=>[.one (.int .i64 g.1.1), .one (.int .i64 g.1.2)]) (fun g=>(g.1.2+1).toNat) ⟨(0,0), .inl rfl⟩ aV.rfl (fun _=>rfl) ?_;rintro ⟨⟨acc,i⟩,hp⟩;dsimp only [aF,aG] at hp ⊢;apply vn iE rfl;refine vs _ rfl ?_ ?_<;>intro h18
 ·have hi:acc=0∧i=0:=by
   rcases hp with e | e<;>obtain ⟨rfl,rfl⟩:=Prod.mk.inj e
   ·exact ⟨rfl,rfl⟩
   ·omega
  obtain ⟨rfl,rfl⟩:=hi;apply vn (cU) rfl;apply aA (Ji (-1)) rfl;rw [show (-1:Int).sign = -1 from rfl];dsimp only [aF,aG];apply vn (Kq cI (show (rT (dg 1))[(0:Int).toNat]? = some [.int .u32 ((1:Nat):Int)] by rw [iB];rfl)) rfl;apply vn (gD lP) rfl;apply vn (fD ⟨_,eO⟩ PX (c:=1) (by rw [IntKind.wrap_i64];omega)) rfl;apply vn (cU) rfl;dsimp only [aF,aG];apply vn (aH) rfl;apply vn (aW) rfl;dsimp only [aF,aG];exact bF rfl ⟨⟨(-1,-1), .inr rfl⟩,aV.rfl,by show ((-1:Int)+1).toNat<((0:Int)+1).toNat;decide⟩
 have hi:acc = -1:=by
  rcases hp with e | e<;>obtain ⟨rfl,rfl⟩:=Prod.mk.inj e
  ·omega
  ·rfl
 rw [hi];exact aK rfl
def aa9:Tr:=aI 90 [(G1 0)] [none] [7] [26] 4 true (.split (.u 1 0) (.ret [(.one (.c (.k (.string ⟨#[48]⟩))))]) (aI 132 [(W 0 0)] [none] [10] [24] 165 true (.fail 1005)))
theorem VC:aN prog f89 (fun _=>none) [.v (some 1)]=aa9:=by kernel_rfl
theorem Qz  :aD prog 89 [(mT 0:aE)] (.ret [bS [48]]):=by
 refine bU func89 VC ?_;apply aA (hC 0) rfl;refine aQ true rfl (fun _=>?_) (fun h=>by cases h);exact aK rfl
theorem SA  :aD prog 27 [(qT (0:Rat):aE)] (.ret [bS [48]]):=by
 refine bU func27 NB ?_;apply aA Qz rfl;refine aQ false rfl (fun h=>by cases h) (fun _=>?_);apply aA (hC ((0:Rat).den-1)) rfl;rw [show decide ((0:Rat).den-1=0)=true from rfl];apply vn oE rfl;refine aQ false rfl (fun h=>by cases h) (fun _=>?_);exact aK rfl
theorem qtr (x:Rat) (z:Int) (hI:aD prog 127 [qT (z:Rat)] (.ret [.one (.int .i64 z), .one (.bool true)])) (h:Fit 300 x∧gT (aZ x (rY (JM 0)).1)=z∧gT (aZ x (rY (JM 0)).2)=z):aD prog 84 [qT x] (.ret [.one (.int .i64 z)]):=
 Di x z h.1 hI h.2.1 h.2.2
theorem as4:aD prog 84 [qT (0:Rat)] (.ret [.one (.int .i64 0)]):=qtr 0 0 OK (by decide +kernel)
theorem av3:aD prog 84 [qT ((2:Int):Rat)] (.ret [.one (.int .i64 1)]):=qtr _ 1 (kM 1) (by decide +kernel)
theorem ay1:aD prog 84 [qT ((3:Int):Rat)] (.ret [.one (.int .i64 1)]):=qtr _ 1 (kM 1) (by decide +kernel)
theorem ar7:aD prog 84 [qT ((4:Int):Rat)] (.ret [.one (.int .i64 2)]):=qtr _ 2 (kM 2) (by decide +kernel)
theorem as3:aD prog 84 [qT ((-1:Int):Rat)] (.ret [.one (.int .i64 (-1))]):=qtr _ (-1) ON (by decide +kernel)
end Go.Sy
