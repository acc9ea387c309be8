/- Part. -/
import Derived.Test.YtdmcadckdnnglaaGreatDoorJa
set_option linter.all false
namespace Go.Sy
open Go Go.Proofs Tryz Ord
def Wn:Tr:=fP 1 0 14 0 27 55 56 (eS 17 0 (some 3) 26 57 (aM 39 [(G3 18)] [none] [58] [26] 4 true (.need (.prim [(W 19 0)] none) (.unOp .not 4 (tT 59)) 4 false (.split (.u 20 0) (aM 16 [] [none] [] [] 4 true (.ret [(W 21 0)])) (bA .add 3 53 1 14 0 3 (.back 0 [lV 13 0,lV 21 0]))))))
def Vi:Tr:=eS 43 0 (some 3) 39 134 (aM 36 [(G3 44),(G3 21)] [(some 3)] [135,136] [39,39] 39 false (aM 64 [(G3 42),(G3 45)] [(some 3)] [131,137] [39,39] 39 true (.need (.lit 3 [[(.u 46 0),(.u 46 1),(.u 46 2)]]) (.buildSlice 40 1 #[(0,(tT 138))]) 40 false (.need (.app 3 56 (some 36) none (some 47)) (.call ⟨.builtin .append,#[(tT 126),(tT 139)],#[40,40]⟩) 40 false (bA .add 3 123 1 31 0 3 (.back 0 [lV 49 0,lV 32 0,lV 33 0,lV 34 0,lV 35 0, .row 48]))))))
def kN:Tr:=.ret [(tF false)]
def Ub:Tr:=fP 50 0 61 0 118 209 210 (eS 70 0 (some 6) 123 211 (aM 73 [(G6 69),(G6 71)] [none] [208,212] [123,123] 4 true (.need (.prim [(W 72 0)] none) (.unOp .not 4 (tT 213)) 4 false (.split (.u 73 0) kN (bA .add 3 196 1 61 0 3 (.back 0 [lV 60 0,lV 74 0]))))))
def WW:Tr:=.split (.u 63 0) (fP 44 0 61 0 118 198 199 (eS 64 0 (some 6) 123 200 (fP 47 0 61 0 118 202 203 (eS 66 0 (some 6) 123 204 (aM 74 [(G6 67),(G3 21)] [(some 6)] [205,206] [123,39] 123 false (aM 66 [(G6 65),(G6 68)] [(some 6)] [201,207] [123,123] 123 false Ub)))))) (aM 16 [] [none] [] [] 4 true (.ret [(W 64 0)]))
def XK:Tr:=cV 44 0 186 118 (cV 50 0 188 118 (bM .neq 3 187 189 57 0 58 0 4 (.split (.u 59 0) kN (.loop 0 [lV 13 0,lK 0] (cV 44 0 193 118 (bM .lss 3 192 194 61 0 62 0 4 WW))))))
def VJ:Tr:=.split (.u 52 0) kN (bM .neq 55 174 175 45 0 51 0 4 (.split (.u 53 0) kN (cV 44 0 179 118 (cV 47 0 181 118 (bM .neq 3 180 182 54 0 55 0 4 (.split (.u 56 0) kN XK))))))
def Wc:Tr:=aM 56 [(W 4 0)] [none] [149] [3] 3 false (aM 72 [(G5 17),(G3 19),(W 43 0)] [none,none] [147,148,150] [42,39,3] 130 false (aM 56 [(W 4 0)] [none] [157] [3] 3 false (aM 72 [(.agg [(U 17 0),(U 17 1),(U 17 2),(U 17 3),(U 29 0)]),(G3 19),(W 46 0)] [none,none] [155,156,158] [42,39,3] 130 false (aM 56 [(W 4 0)] [none] [165] [3] 3 false (aM 72 [(.agg [(U 32 0),(U 33 0),(U 34 0),(U 35 0),(.c (.sr 3 36))]),(G3 19),(W 49 0)] [none,none] [163,164,166] [42,39,3] 130 false (bM .neq 55 170 171 45 0 48 0 4 VJ))))))
def Wm:Tr:=bM .lss 3 118 120 31 0 39 0 4 (.split (.u 40 0) (fP 17 4 31 0 40 128 129 (eS 41 0 (some 3) 39 130 (fP 29 0 31 0 40 132 133 Vi))) (aM 21 [(.agg [(U 17 0),(U 17 1),(U 17 2),(U 17 3),(U 29 0)])] [none] [142] [42] 55 true (bA .neq 55 143 0 41 0 4 (.split (.u 42 0) (aM 16 [] [none] [] [] 4 true (.ret [(W 43 0)])) Wc))))
def Sq:Tr:=fP 48 0 59 0 118 209 210 (eS 68 0 (some 6) 123 211 (aM 73 [(G6 67),(G6 69)] [none] [208,212] [123,123] 4 true (.need (.prim [(W 70 0)] none) (.unOp .not 4 (tT 213)) 4 false (.split (.u 71 0) kN (bA .add 3 196 1 59 0 3 (.back 0 [lV 58 0,lV 72 0]))))))
def TL:Tr:=.split (.u 61 0) (fP 42 0 59 0 118 198 199 (eS 62 0 (some 6) 123 200 (fP 45 0 59 0 118 202 203 (eS 64 0 (some 6) 123 204 (aM 74 [(G6 65),(G3 21)] [(some 6)] [205,206] [123,39] 123 false (aM 66 [(G6 63),(G6 66)] [(some 6)] [201,207] [123,123] 123 false Sq)))))) (aM 16 [] [none] [] [] 4 true (.ret [(W 62 0)]))
def Qs:Tr:=cV 42 0 186 118 (cV 48 0 188 118 (bM .neq 3 187 189 55 0 56 0 4 (.split (.u 57 0) kN (.loop 0 [lV 13 0,lK 0] (cV 42 0 193 118 (bM .lss 3 192 194 59 0 60 0 4 TL))))))
def RP:Tr:=.split (.u 50 0) kN (bM .neq 55 174 175 43 0 49 0 4 (.split (.u 51 0) kN (cV 42 0 179 118 (cV 45 0 181 118 (bM .neq 3 180 182 52 0 53 0 4 (.split (.u 54 0) kN Qs))))))
def UR:Tr:=aM 56 [(W 4 0)] [none] [149] [3] 3 false (aM 72 [(G5 17),(G3 19),(W 41 0)] [none,none] [147,148,150] [42,39,3] 130 false (aM 56 [(W 4 0)] [none] [157] [3] 3 false (aM 72 [(.agg [(U 17 0),(U 17 1),(U 17 2),(U 17 3),(U 29 0)]),(G3 19),(W 44 0)] [none,none] [155,156,158] [42,39,3] 130 false (aM 56 [(W 4 0)] [none] [165] [3] 3 false (aM 72 [(.agg [(U 32 0),(U 33 0),(U 34 0),(U 35 0),(.c (.sr 3 36))]),(G3 19),(W 47 0)] [none,none] [163,164,166] [42,39,3] 130 false (bM .neq 55 170 171 43 0 46 0 4 RP))))))
def XZ:Tr:=bM .lss 3 112 115 31 0 37 0 4 (.split (.u 38 0) (cV 29 0 119 40 Wm) (aM 21 [(.agg [(U 17 0),(U 17 1),(U 17 2),(U 17 3),(U 29 0)])] [none] [142] [42] 55 true (bA .neq 55 143 0 39 0 4 (.split (.u 40 0) (aM 16 [] [none] [] [] 4 true (.ret [(W 41 0)])) UR))))
def WG:Tr:=.split (.u 26 0) (aM 16 [] [none] [] [] 4 true (.ret [(W 27 0)])) (aM 58 [(W 18 0),(.agg [(U 18 1),(U 18 2),(U 18 3),(U 18 4)])] [none] [89,91] [44,49] 4 false (.need (.prim [(W 27 0)] none) (.unOp .not 4 (tT 92)) 4 false (.split (.u 28 0) (aM 16 [] [none] [] [] 4 true (.ret [(W 29 0)])) (aM 71 [(W 1 0)] [none,none] [97] [27] 128 false (.loop 0 [lK 0,lV 17 0,lV 17 1,lV 17 2,lV 17 3, .nilrow] (cV 17 4 114 40 XZ))))))
def Wb:Tr:=aM 40 [(G3 2)] [(some 3),(some 4)] [68] [26] 82 false (aM 40 [(G3 3)] [(some 3),(some 4)] [73] [26] 82 false (aM 21 [(G5 17)] [none] [77] [42] 55 false (bA .neq 55 78 0 23 0 4 (.split (.u 24 0) (aM 16 [] [none] [] [] 4 true (.ret [(W 25 0)])) (aM 70 [(G4 20),(.agg [(U 18 1),(U 18 2),(U 18 3),(U 18 4)])] [none] [81,83] [49,49] 4 false (.need (.prim [(W 25 0)] none) (.unOp .not 4 (tT 84)) 4 false WG))))))
def YD:Tr:=bA .gtr 3 45 5 11 0 4 (.split (.u 12 0) (aM 16 [] [none] [] [] 4 true (.ret [(W 13 0)])) (.loop 0 [(.w (.one (.c (.k (.bool false))))),lK 0] (cV 1 0 50 27 (bM .lss 3 49 51 14 0 15 0 4 (.split (.u 16 0) Wn (aM 17 [(G8 0)] [(some 5),(some 6)] [63] [29] 53 false Wb))))))
def ap4:Tr:=.need (.prim [(W 7 0)] none) (.unOp .not 4 (tT 35)) 4 false (.split (.u 8 0) (aM 16 [] [none] [] [] 4 true (.ret [(W 9 0)])) (aM 39 [(G3 3)] [none] [39] [26] 4 false (.need (.prim [(W 9 0)] none) (.unOp .not 4 (tT 40)) 4 false (.split (.u 10 0) (aM 16 [] [none] [] [] 4 true (.ret [(W 11 0)])) (cV 1 0 44 27 YD)))))
def ay0:Tr:=aM 15 [(G8 0)] [none] [30] [29] 4 false (.need (.prim [(W 5 0)] none) (.unOp .not 4 (tT 31)) 4 false (.split (.u 6 0) (aM 16 [] [none] [] [] 4 true (.ret [(W 7 0)])) (aM 39 [(G3 2)] [none] [34] [26] 4 false ap4)))
theorem Gn:aL prog f10 (fun _=>none) [.v (some 8), .v none, .v (some 3), .v (some 3), .v none]=ay0:=by kernel_rfl
section
variable {c:bJ}
theorem UK (hs:c.small=true) (hok:okF c.E c.X c.Y=true) {x:Rat} (hx:kG x):Uh c.E c.X x:=⟨MJ hok,Su hs,hx⟩
theorem wS (hC:Hm c) {x:Rat} {k:Int} (hk:k≤256) (F:Uh c.E c.X x) {Y:List Rat} (hY:okF c.E c.X Y=true) (hf:∀ y∈Y,Fit 2000 y) :
  aN prog 72 [fT c.E c.X Y,qT x, .one (.int .i64 k)] (.ret [.one (.slice 6 (vS (HB (gE c.E x k 64 c.X (ML Y))).1)), .one (.int .i64 (HB (gE c.E x k 64 c.X (ML Y))).2)]) ∧
  ∀ w,gE c.E x k 64 c.X (ML Y)=some w→w.length=c.E.length-1∧∀ p∈w,Fit 768021200 p.1∧Fit 768021200 p.2:=by
 obtain ⟨l2,l5,hyl,_,_⟩:=tC hY;have P:=hC.toSmallX.be1 F hk;have I0:=YW.first F (v0:=ML Y) (by rw [aP];exact hyl) (fun p hp=>by obtain ⟨y,hy,rfl⟩:=gT.1 hp;exact ⟨hf y hy,hf y hy⟩)
 have hck:aN prog 21 [fT c.E c.X Y] (.ret [.one (.int .i64 0)]):=by
  have h:=mB c.E c.X Y hC.e1 hC.xf
  rwa [if_pos hY] at h
 have hval:=Pr c.E c.X Y x k 12000000 768021200 _ P hk l2 l5 (F.xb.fit.mono (by omega)) I0;refine ⟨Ep c.E c.X Y x k _ hck hval,fun w hw=>?_⟩;obtain ⟨g,c',hI⟩:=RE P 64 _ _ I0 hw;exact (P.PR g c' w hI).2
end
def GO (y l:List Rat) (u:Rat) (i:Nat):List Rat:=(List.range i).map fun j=>y.getD j 0+l.getD j 0*u
theorem OZ (y l:List Rat) (u:Rat) (i:Nat):GO y l u (i+1)=GO y l u i ++ [y.getD i 0+l.getD i 0*u]:=by
 unfold GO;rw [List.range_succ,List.map_append];rfl
theorem CZ (y l:List Rat) (u:Rat) (i:Nat):(GO y l u i).length=i:=by rw [GO,aP,uG]
set_option maxHeartbeats 4000000 in
theorem Hq (c:bJ) (h:c.In) (z:List bP) (hz:∀ a∈z,a.In) (hzl:z.length<140737488355328) (x:bP) (hx:x.In) (y:bP) (hy:y.In) (k:Int):aN prog 10 [(caT c:aF),(.one (sN z):aF),(nT x:aF),(nT y:aF),(.one (.int .i64 k):aF)] (.ret [.one (.bool true)]):=by
 refine cM func10 Gn ?_;have hS:=QP c h;have hB:=fun hs=>YM c h hs;apply aC hS rfl;dsimp only [aA,aB];apply vn nD rfl;dsimp only [aA,aB];refine sG (!c.small) rfl (fun h2=>?_) (fun h2=>?_)
 ·apply aC gQ rfl;exact aK rfl
 have hs0:c.small=true:=by cases hh:c.small<;>simp_all
 have hC:=Kz h hs0;apply aC (sZ x hx) rfl;dsimp only [aA,aB];apply vn nD rfl;dsimp only [aA,aB];refine sG (!x.short) rfl (fun h7=>?_) (fun h7=>?_)
 ·apply aC gQ rfl;exact aK rfl
 have hxs:x.short=true:=by cases hh:x.short<;>simp_all
 apply aC (sZ y hy) rfl;dsimp only [aA,aB];apply vn nD rfl;dsimp only [aA,aB];refine sG (!y.short) rfl (fun h12=>?_) (fun h12=>?_)
 ·apply aC gQ rfl;exact aK rfl
 have hys:y.short=true:=by cases hh:y.short<;>simp_all
 have hxb:=bP.PR hxs;have hxf:Fit 1024 x.v:=hxb.fit.mono (by omega);have hyf:=hy.Xj;apply vn (aQ DN (aP _)) rfl;dsimp only [aA,aB];apply vn eE rfl;dsimp only [aA,aB];refine vs _ rfl ?_ ?_<;>intro h17
 ·apply aC gQ rfl;exact aK rfl
 refine bF {i:Nat // i≤z.length∧∀ j a,j<i→z[j]? = some a→a.short=true} (fun g=>[.one (.bool false), .one (.int .i64 g.1)]) (fun g=>z.length-g.1) ⟨0,bR _,fun j a h=>by omega⟩ aO.rfl (fun _=>rfl) ?_;rintro ⟨i,hi,hal⟩;dsimp only [aA,aB] at hi hal ⊢;apply vn (aQ DN (aP _)) rfl;dsimp only [aA,aB];apply vn bE rfl;dsimp only [aA,aB];refine vs _ rfl ?_ ?_<;>intro h23
 ·obtain ⟨a,ha⟩:∃ a,z[i]? = some a:=⟨_,bI (by omega)⟩
  apply vn (aW DN ha (Int.toNat_natCast i)) rfl;dsimp only [aA,aB];apply vn (bO WM (by decide) (by simp) (.inl rfl)) rfl;dsimp only [aA,aB];apply aC (sZ a (hz a (cS ha))) rfl;dsimp only [aA,aB];apply vn nD rfl;dsimp only [aA,aB];refine sG (!a.short) rfl (fun h28=>?_) (fun h28=>?_)
  ·apply aC gQ rfl;exact aK rfl
  apply vn (aD) rfl
  exact aR rfl ⟨⟨i+1,by omega,fun j a' hj ha'=>by
   rcases Nat.lt_or_ge j i with h | h
   ·exact hal j a' h ha'
   ·rw [show j=i by omega,ha] at ha';simp only [aJ] at ha';subst ha'
    simpa using h28⟩,aO.rfl,by show z.length-(i+1)<z.length-i;omega⟩
 have hall:∀ a∈z,a.short=true:=fun a ha=>by
  obtain ⟨m,hm⟩:=List.getElem?_of_mem ha;exact hal m a (by have:=(dS.1 hm).1;omega) hm
 have hz5:z.length≤5:=by omega
 clear hal;obtain ⟨L,hL⟩:∃ L,cW z=L:=⟨_,rfl⟩
 have hLl:L.length=z.length:=by rw [←hL];exact pG z
 have hLf:∀ l∈L,Fit 513 l:=fun l hl=>by
  rw [←hL] at hl;obtain ⟨a,ha,rfl⟩:=gT.1 hl;exact (hz a ha).Xj
 apply aC (hB hs0) rfl;dsimp only [aA,aB];apply aC (Bv x hx) rfl;dsimp only [aA,aB];apply aC (Bv y hy) rfl;dsimp only [aA,aB];by_cases hok:okF c.E c.X c.Y=true
 rotate_left
 ·apply aC (Oy hC (by simpa using hok)) rfl;apply vn gI rfl;refine sG true rfl (fun _=>?_) (fun h=>by cases h);apply aC gQ rfl;exact aK rfl
 apply aC (Qg hC hok) rfl;dsimp only [aA,aB];apply vn gI rfl;dsimp only [aA,aB];refine sG false rfl (fun h=>by cases h) (fun _=>?_);apply aC (WH (.of x.v) c.XR hxf (by rw [hC.x];exact hC.xb.fit.mono (by omega))) rfl;dsimp only [aA,aB];apply vn nD rfl;dsimp only [aA,aB];refine sG (!Ml (.of x.v) c.XR) rfl (fun h43=>?_) (fun h43=>?_)
 ·apply aC gQ rfl;exact aK rfl
 apply aC (TF c.E c.ER c.X c.XR hC.toSmallX (MJ hok)) rfl;dsimp only [aA,aB];apply vn nD rfl;dsimp only [aA,aB];refine sG (!decide ((jJ c.E c.X).2≤24)) rfl (fun h48=>?_) (fun h48=>?_)
 ·apply aC gQ rfl;exact aK rfl
 have hLk:=GV z hz;rw [hL] at hLk;apply aC hLk rfl;dsimp only [aA,aB];obtain ⟨l2,l5,hyl,_,_⟩:=tC hok;refine bF {i:Nat // i≤c.Y.length∧i≤L.length} (fun g=>(.one (.int .i64 g.1):aF) :: .one (eQ c.E)::((qC c.X).map .one ++ [.rows (rQ (GO c.Y L y.v g.1))])) (fun g=>c.Y.length-g.1) ⟨0,bR _,bR _⟩ aO.rfl (fun _=>rfl) ?_;rintro ⟨i,hi,hiL⟩;dsimp only [aA,aB,List.map] at hi hiL ⊢;apply vn (aQ rL (aP _)) rfl;dsimp only [aA,aB];apply vn bE rfl;dsimp only [aA,aB];refine vs _ rfl ?_ ?_<;>intro h55
 ·apply vn (aQ rL (aP _)) rfl;dsimp only [aA,aB];apply vn bE rfl;dsimp only [aA,aB];refine vs _ rfl ?_ ?_<;>intro h58
  ·apply vn (aW rL (cG (l:=c.Y)) (Int.toNat_natCast i)) rfl;dsimp only [aA,aB];apply vn (bO pO (by decide) (by simp) (.inl rfl)) rfl;dsimp only [aA,aB];apply vn (aW rL (cG (l:=L)) (Int.toNat_natCast i)) rfl;dsimp only [aA,aB];apply vn (bO pO (by decide) (by simp) (.inl rfl)) rfl;dsimp only [aA,aB];have fcy:Fit 513 (c.Y.getD i 0):=gO hC.yf i (by decide);have fly:Fit 513 (L.getD i 0):=gO hLf i (by decide);have fly2:Fit 1026 (L.getD i 0*y.v):=(fly.mul hyf).mono (by omega);apply aC (cY (L.getD i 0) y.v 513 513 fly hyf) rfl;dsimp only [aA,aB];have hadd:=kA (c.Y.getD i 0) (L.getD i 0*y.v) 513 1026 fcy fly2;apply aC hadd rfl;dsimp only [aA,aB];apply bL (us:=[qC (c.Y.getD i 0+L.getD i 0*y.v)]) rfl;dsimp only [aA,aB];refine rP (ts:=rQ (GO c.Y L y.v i)) (us:=[qC (c.Y.getD i 0+L.getD i 0*y.v)]) (vs:=rQ (GO c.Y L y.v (i+1))) rfl rfl (by rw [OZ];simp) (by rw [rQ,aP,CZ];omega) (by rw [rQ,aP,CZ];simp [maxLen];omega) ?_;dsimp only [aA,aB];apply vn (aD) rfl;dsimp only [aA,aB];exact aR rfl ⟨⟨i+1,by omega,by omega⟩,aO.rfl,by show c.Y.length-(i+1)<c.Y.length-i;omega⟩
  have hbad:okF c.E c.X L=false:=by
   unfold okF;rw [decide_eq_false (show ¬ L.length=c.E.length-1 by omega),Bool.and_false,Bool.false_and]
  have hck:=mB c.E c.X L hC.e1 hC.xf;rw [if_neg (by rw [hbad];decide)] at hck;apply aC hck rfl;dsimp only [aA,aB];apply vn gI rfl;dsimp only [aA,aB];refine sG true rfl (fun _=>?_) (fun h=>by cases h);apply aC gQ rfl;exact aK rfl
 obtain rfl:i=c.Y.length:=by omega
 by_cases hokg:okF c.E c.X L=true
 rotate_left
 ·have hck:=mB c.E c.X L hC.e1 hC.xf;rw [if_neg hokg] at hck;apply aC hck rfl;apply vn gI rfl;refine sG true rfl (fun _=>?_) (fun h=>by cases h);apply aC gQ rfl;exact aK rfl
 have hck:=mB c.E c.X L hC.e1 hC.xf;rw [if_pos hokg] at hck;apply aC hck rfl;dsimp only [aA,aB];apply vn gI rfl;dsimp only [aA,aB];refine sG false rfl (fun h=>by cases h) (fun _=>?_);obtain ⟨g,hg⟩:∃ g,g=Gi k:=⟨_,rfl⟩
 have hg2:g≤256:=by rw [hg];exact UA k
 have F:=UK hs0 hok hxb;have hLY:L.length=c.Y.length:=by rw [(tC hokg).2.2.1,hyl]
 obtain ⟨H,hH⟩:∃ H,GO c.Y L y.v c.Y.length=H:=⟨_,rfl⟩
 have hHl:H.length=c.Y.length:=by rw [←hH];exact CZ _ _ _ _
 have hokh:okF c.E c.X H=true:=by
  unfold okF at hok ⊢;rw [hHl];exact hok
 have hHf:∀ a∈H,Fit 2000 a:=fun a ha=>by
  rw [←hH] at ha;obtain ⟨j,_,rfl⟩:=gT.1 ha;exact ((gO hC.yf j).add ((gO hLf j).mul hyf)).mono (by omega)
 obtain ⟨eA,wA⟩:=wS hC hg2 F hok fun a ha=>(hC.yf a ha).mono (by omega);obtain ⟨eB,wB⟩:=wS hC hg2 F hokg fun a ha=>(hLf a ha).mono (by omega);obtain ⟨eD,wD⟩:=wS hC hg2 F hokh hHf;have hlin:=UH (E:=c.E) (x:=x.v) (k:=g) (u:=y.v) 64 c.X (ML c.Y) (ML L) (ML H) (by rw [←hyl,←hH];exact OV y.v c.Y L hLY);rw [hH];apply aC (Hl k) rfl;rw [←hg];dsimp only [aA,aB];apply aC eA rfl;dsimp only [aA,aB];apply aC (Hl k) rfl;rw [←hg];dsimp only [aA,aB];apply aC eB rfl;dsimp only [aA,aB];apply aC (Hl k) rfl;rw [←hg];dsimp only [aA,aB];apply aC eD rfl;generalize gE c.E x.v g 64 c.X (ML c.Y)=a at *;generalize gE c.E x.v g 64 c.X (ML L)=b at *;generalize gE c.E x.v g 64 c.X (ML H)=d at *;clear eA eB eD;dsimp only [aA,aB];apply vn gI rfl;dsimp only [aA,aB];refine sG false (by rcases hlin with ⟨rfl,rfl,rfl⟩ | ⟨a,b,d,rfl,rfl,rfl,_⟩<;>rfl) (fun h=>by cases h) (fun _=>?_);apply vn gI rfl;dsimp only [aA,aB];refine sG false (by rcases hlin with ⟨rfl,rfl,rfl⟩ | ⟨a,b,d,rfl,rfl,rfl,_⟩<;>rfl) (fun h=>by cases h) (fun _=>?_)
 have hlens:∃ m,m≤4∧(HB a).1.length=m∧(HB b).1.length=m∧(HB d).1.length=m∧(∀ p∈(HB a).1,Fit 768021200 p.1∧Fit 768021200 p.2)∧(∀ p∈(HB b).1,Fit 768021200 p.1∧Fit 768021200 p.2)∧(∀ p∈(HB d).1,Fit 768021200 p.1∧Fit 768021200 p.2)∧Lin m y.v (HB a).1 (HB b).1 (HB d).1:=by
  rcases hlin with ⟨rfl,rfl,rfl⟩ | ⟨a,b,d,rfl,rfl,rfl,hl⟩
  ·exact ⟨0,by omega,rfl,rfl,rfl,fun p hp=>(List.not_mem_nil hp).elim,fun p hp=>(List.not_mem_nil hp).elim,fun p hp=>(List.not_mem_nil hp).elim,fun _=>0,fun _=>0,fun i hi=>by omega⟩
  ·exact ⟨c.E.length-1,by omega,(wA a rfl).1,(wB b rfl).1,(wD d rfl).1,(wA a rfl).2,(wB b rfl).2,(wD d rfl).2,hl⟩
 obtain ⟨m,hm4,hla,hlb,hld,fa,fb,fd,al,be,hlin2⟩:=hlens;clear wA wB wD hlin;generalize (HB a).1=a1 at *;generalize (HB b).1=b1 at *;generalize (HB d).1=d1 at *;apply vn (aQ vG (aP _)) rfl;dsimp only [aA,aB];apply vn (aQ vG (aP _)) rfl;dsimp only [aA,aB];apply vn gI rfl;dsimp only [aA,aB];rw [decide_eq_false (show ¬ (a1.length:Int)≠b1.length by omega)];refine sG false rfl (fun h=>by cases h) (fun _=>?_);apply vn (aQ vG (aP _)) rfl;dsimp only [aA,aB];apply vn (aQ vG (aP _)) rfl;dsimp only [aA,aB];apply vn gI rfl;dsimp only [aA,aB];rw [decide_eq_false (show ¬ (a1.length:Int)≠d1.length by omega)];refine sG false rfl (fun h=>by cases h) (fun _=>?_);refine bF {i:Nat // i≤m} (fun g=>[.one (.bool false), .one (.int .i64 g.1)]) (fun g=>m-g.1) ⟨0,bR _⟩ aO.rfl (fun _=>rfl) ?_;rintro ⟨i,hi⟩;dsimp only [aA,aB] at hi ⊢;apply vn (aQ vG (aP _)) rfl;dsimp only [aA,aB];apply vn bE rfl;dsimp only [aA,aB];refine vs _ rfl ?_ ?_<;>intro h146
 ·have hgi:∀ l:VS,l.length=m→i<m→l[i]? = some (l.getD i (0,0)):=fun l hl h=>xW;apply vn (aW vG (hgi a1 hla (by omega)) (Int.toNat_natCast i)) rfl;dsimp only [aA,aB];apply vn (bO NI (by decide) (by simp) (.inl rfl)) rfl;dsimp only [aA,aB];apply vn (aW vG (hgi b1 hlb (by omega)) (Int.toNat_natCast i)) rfl;dsimp only [aA,aB];apply vn (bO NI (by decide) (by simp) (.inl rfl)) rfl;dsimp only [aA,aB];obtain ⟨ga1,ga2⟩:=fa _ (cS (hgi a1 hla (by omega)));obtain ⟨gb1,gb2⟩:=fb _ (cS (hgi b1 hlb (by omega)));obtain ⟨gd1,gd2⟩:=fd _ (cS (hgi d1 hld (by omega)));obtain ⟨sa,sb,sd⟩:=hlin2 i (by omega);generalize a1.getD i (0,0)=p at *;generalize b1.getD i (0,0)=q at *;obtain ⟨gs1,gs2⟩:=WY gb1 gb2 hyf;apply aC (Qq q y.v 768021200 513 gb1 gb2 hyf) rfl;dsimp only [aA,aB];apply aC (LI p.1 p.2 (Pa q y.v).1 (Pa q y.v).2 768021200 (768021200+513) ga1 ga2 gs1 gs2) rfl;dsimp only [aA,aB];apply vn (aW vG (hgi d1 hld (by omega)) (Int.toNat_natCast i)) rfl;dsimp only [aA,aB];apply vn (bO NI (by decide) (by simp) (.inl rfl)) rfl;dsimp only [aA,aB];have hcm:=Pu (p.1+(Pa q y.v).1,p.2+(Pa q y.v).2) (d1.getD i (0,0)) 1600000000 ((ga1.add gs1).mono (by omega)) ((ga2.add gs2).mono (by omega)) (gd1.mono (by omega)) (gd2.mono (by omega)) (Yp (sa.add (sb.scale y.v)) sd);dsimp only at hcm;apply aC hcm rfl;dsimp only [aA,aB];apply vn nD rfl;dsimp only [aA,aB];refine sG false rfl (fun h=>by cases h) (fun _=>?_);apply vn (aD) rfl;dsimp only [aA,aB];exact aR rfl ⟨⟨i+1,by omega⟩,aO.rfl,by show m-(i+1)<m-i;omega⟩
 apply aC gQ rfl;exact aK rfl
end Go.Sy
