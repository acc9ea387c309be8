/- Part. -/
import Derived.Test.YtacgmapjhpghkaaGreatDoorWd
set_option linter.all false
namespace Go.Sy
open Go Go.Proofs Tryz Ord
def bl3:Tr:=eI 0 0 1 0 205 12 13 (dF 5 0 none 2 14 (aX 63 [(W 6 0)] [(some 3)] [15] [2] 46 true (.need (.lit 3 [[(.u 7 0),(.u 7 1),(.u 7 2)]]) (.buildSlice 28 1 #[(0,(tT 16))]) 28 false (.need (.app 3 56 (some 2) none (some 8)) (.call ⟨.builtin .append,#[(tT 11),(tT 17)],#[28,28]⟩) 28 false (bD .add 3 9 1 1 0 3 (.back 0 [lV 10 0, .row 9]))))))
def aO8:Tr:=.loop 0 [lK 0, .nilrow] (dD 0 0 6 205 (cN .lss 3 5 7 1 0 3 0 4 (.split (.u 4 0) bl3 (.ret [(.one (.c (.sr 3 2)))]))))
theorem aC5:aV prog f71 (fun _=>none) [.v none]=aO8:=by kernel_rfl
def Ob:Tr:=.ret [(.one (.c (.k (.slice none 0 0))))]
def bk5:Tr:=aX 23 [(G3 1)] [none] [5] [46] 3 true (bD .eql 3 6 0 2 0 4 (.split (.u 3 0) Ob (.need (.call 113 [(WK 1)] [(some 3)]) (.call ⟨.value (.func 113),#[(.const (I3 1))],#[3]⟩) 46 false (aX 112 [(G3 4),(G3 1)] [(some 3)] [9,10] [46,46] 46 true (aX 125 [(W 0 0),(G3 5)] [none] [8,11] [98,46] 98 true (.ret [(W 6 0)]))))))
theorem au5:aV prog f228 (fun _=>none) [.v none, .v (some 3)]=bk5:=by kernel_rfl
def aC8:Tr:=aX 228 [(.one (.c (.sr 3 27))),(G3 35)] [none] [66,79] [98,46] 98 false (bD .add 3 82 1 1 0 3 (bD .sub 3 84 1 2 0 3 (aX 188 [(G3 0),(W 37 0),(W 38 0)] [none] [81,83,85] [228,3,3] 98 true (aX 64 [(W 36 0),(W 39 0)] [none] [80,86] [98,98] 98 true (aX 66 [(W 21 0),(W 40 0)] [none] [88,89] [98,98] 98 true (.ret [(W 41 0)]))))))
def aH4:Tr:=bD .add 3 70 1 28 0 3 (eI 0 0 29 0 28 67 71 (dF 30 0 (some 3) 46 72 (bD .add 3 75 1 1 0 3 (eI 0 0 32 0 28 74 76 (dF 33 0 (some 3) 46 77 (aX 86 [(G3 31),(G3 34)] [(some 3)] [73,78] [46,46] 46 false aC8))))))
def aC6:Tr:=cN .add 3 59 60 1 0 2 0 3 (bD .add 3 61 1 22 0 3 (eI 0 0 23 0 28 58 62 (dF 24 0 (some 3) 46 63 (.need (.call 113 [(WK (-1))] [(some 3)]) (.call ⟨.value (.func 113),#[(.const (I3 (-1)))],#[3]⟩) 46 false (.need (.lit 3 [[(.u 25 0),(.u 25 1),(.u 25 2)],[(.u 26 0),(.u 26 1),(.u 26 2)]]) (.buildSlice 98 2 #[(0,(tT 64)),(1,(tT 65))]) 98 false (cN .add 3 68 69 1 0 2 0 3 aH4))))))
def au4:Tr:=eI 0 0 1 0 28 46 47 (dF 15 0 (some 3) 46 48 (aX 86 [(G3 14),(G3 16)] [(some 3)] [45,49] [46,46] 46 false (aX 228 [(.one (.c (.sr 3 11))),(G3 17)] [none] [39,50] [98,46] 98 false (bD .sub 3 54 1 2 0 3 (aX 188 [(G3 0),(W 1 0),(W 19 0)] [none] [52,53,55] [228,3,3] 98 true (aX 64 [(W 18 0),(W 20 0)] [none] [51,56] [98,98] 98 true aC6))))))
def ar4:Tr:=dF 7 0 (some 3) 46 35 (aX 65 [(G3 8)] [(some 3)] [36] [46] 46 false (.need (.call 113 [(WK 1)] [(some 3)]) (.call ⟨.value (.func 113),#[(.const (I3 1))],#[3]⟩) 46 false (.need (.lit 3 [[(.u 9 0),(.u 9 1),(.u 9 2)],[(.u 10 0),(.u 10 1),(.u 10 2)]]) (.buildSlice 98 2 #[(0,(tT 37)),(1,(tT 38))]) 98 false (cN .add 3 41 42 1 0 2 0 3 (eI 0 0 12 0 28 40 43 (dF 13 0 (some 3) 46 44 au4))))))
def be9:Tr:=.split (.u 3 0) (cN .eql 3 12 14 1 0 0 2 4 (.split (.u 4 0) (.need (.call 113 [(WK 1)] [(some 3)]) (.call ⟨.value (.func 113),#[(.const (I3 1))],#[3]⟩) 46 true (.need (.lit 3 [[(.u 5 0),(.u 5 1),(.u 5 2)]]) (.buildSlice 98 1 #[(0,(tT 16))]) 98 false (.ret [(.one (.c (.sr 3 6)))]))) Ob)) (cN .lss 3 22 23 0 2 1 0 4 (.split (.u 4 0) Ob (cN .add 3 28 29 1 0 2 0 3 (cN .gtr 3 27 30 0 2 5 0 4 (.split (.u 6 0) Ob (eI 0 0 1 0 28 33 34 ar4))))))
def bb9:Tr:=bD .eql 3 10 0 2 0 4 be9
theorem Xm:aV prog f188 (fun _=>none) [.v (some 3), .v none, .v none]=bb9:=by kernel_rfl
def am7:Tr:=.ret [(W 3 0)]
def bk8:Tr:=dD 0 0 4 28 (cN .sub 3 5 7 1 0 0 1 3 (bD .sub 3 8 1 2 0 3 am7))
theorem Uf:aV prog f104 (fun _=>none) [.v (some 2)]=bk8:=by kernel_rfl
def aR7:Tr:=eI 0 0 0 1 28 4 6 (dF 1 0 (some 3) 46 7 (.ret [(G3 2)]))
theorem am4:aV prog f107 (fun _=>none) [.v (some 2)]=aR7:=by kernel_rfl
def aO9:Tr:=dD 0 0 6 28 (bD .sub 3 7 1 1 0 3 (cN .sub 3 8 10 2 0 0 1 3 (eI 0 0 3 0 28 4 11 (dF 4 0 (some 3) 46 12 (.ret [(G3 5)])))))
theorem aw8:aV prog f108 (fun _=>none) [.v (some 2)]=aO9:=by kernel_rfl
def be0:Tr:=aX 104 [(G2 0)] [none] [6] [157] 3 true (.need (.make [(.slice none 0 0),(.bool false),(.slice none 0 0)] 56 (.u 2 0) (.u 2 0)) (.makeSlice 28 (tT 7) (tT 7)) 28 false (.need (.call 113 [(WK 1)] [(some 3)]) (.call ⟨.value (.func 113),#[(.const (I3 1))],#[3]⟩) 46 true (.need (.idx 3 (.u 1 0)) (.indexAddr 28 (tT 9) (tT 10)) 0 false (.need (.strow 3 3 (.u 1 0) 0 [(.u 4 0),(.u 4 1),(.u 4 2)]) (.store 46 (tT 12) (tT 11)) 0 false (.ret [(.one (.c (.sr 3 5)))])))))
theorem ae4:aV prog f106 (fun _=>none) [.v (some 2), .v none]=be0:=by kernel_rfl
def vL:Tr:=.ret [(.agg [(U 0 0),(U 1 0)]),(tF false)]
def aF6:Tr:=eI 0 0 22 0 28 49 53 (dF 23 0 (some 3) 46 54 (aX 67 [(G3 20),(G3 24)] [none] [48,55] [46,46] 3 true (bD .eql 3 56 0 25 0 4 (.split (.u 26 0) vL (bD .add 3 43 1 14 0 3 (.back 0 [lV 13 0,lV 27 0,lV 15 0,lV 16 0]))))))
def aD8:Tr:=eI 0 0 29 0 28 77 79 (dF 30 0 (some 3) 46 80 (eI 0 0 21 0 28 82 83 (dF 32 0 (some 3) 46 84 (aX 67 [(G3 31),(G3 33)] [none] [81,85] [46,46] 3 false (bD .lss 3 86 0 34 0 4 (.ret [(.agg [(U 0 0),(U 1 0)]),(W 35 0)]))))))
def ax1:Tr:=bD .add 3 70 1 1 0 3 (eI 0 0 24 0 28 69 71 (dF 25 0 (some 3) 46 72 (aX 67 [(G3 23),(G3 26)] [none] [68,73] [46,46] 3 false (bD .lss 3 74 0 27 0 4 (.split (.u 28 0) (bD .sub 3 78 1 21 0 3 aD8) vL)))))
def aA1:Tr:=cN .lss 3 39 41 14 0 17 0 4 (.split (.u 18 0) (eI 0 0 14 0 28 45 46 (dF 19 0 (some 3) 46 47 (cN .sub 3 50 51 14 0 1 0 3 (bD .sub 3 52 1 21 0 3 aF6)))) (dD 0 0 59 28 (bD .sub 3 60 1 19 0 3 (cN .sub 3 61 62 20 0 1 0 3 (eI 0 0 1 0 28 65 66 (dF 22 0 (some 3) 46 67 ax1))))))
def at0:Tr:=.split (.u 9 0) vL (.need (.call 90 [(W 0 0),(tF false)] [none]) (.call ⟨.value (.func 90),#[(tT 32),(.const (.bool false))],#[28,4]⟩) 4 false (.need (.prim [(W 10 0)] none) (.unOp .not 4 (tT 33)) 4 false (.split (.u 11 0) vL (bD .add 3 37 1 1 0 3 (.loop 0 [(.w (.one (.c (.k (.bool false))))),lV 12 0,lN,lK 0] (dD 0 0 40 28 aA1))))))
def bn3:Tr:=dD 0 0 19 28 (.need (.prim [(WK 2),(W 1 0)] none) (.binOp .mul 3 (.const (I3 2)) (tT 21) 3) 3 false (bD .add 3 22 2 5 0 3 (cN .lss 3 20 23 4 0 6 0 4 (.split (.u 7 0) vL (dD 0 0 27 28 (bD .gtr 3 28 60 8 0 4 at0))))))
def bm4:Tr:=bD .lss 3 12 0 1 0 4 (.split (.u 2 0) vL (bD .gtr 3 15 5 1 0 4 (.split (.u 3 0) vL bn3)))
theorem Yk:aV prog f103 (fun _=>none) [.v none, .v none]=bm4:=by kernel_rfl
theorem aj4 {sz:Nat} {us ts:List (List aD)} (h:bC (bC aD.Sub) us ts):(aD.slice sz us).Sub (.slice sz ts):=by
 refine .inr ⟨fun M w v h=>by obtain ⟨a,cap,rfl,_⟩:=h;exact ⟨_,_,_,rfl⟩,fun M w v hv=>?_⟩;obtain ⟨a,cap,rfl,hc,hm,he⟩:=hv;have hl:=h.length;refine ⟨a,cap,by rw [hl],by omega,hm,?_⟩;rcases he with he | ⟨b,off,cs,T,fz,rfl,h1,h2,h3⟩
 .exact .inl (List.length_eq_zero_iff.1 (by rw [<-hl,he];rfl))
 .refine .inr ⟨b,off,cs,T,fz,rfl,h1,h2,fun i t ht=>?_⟩;obtain ⟨u,hu⟩:∃ u,us[i]? = some u:=⟨_,bZ (by have:=(dQ.1 ht).1;omega)⟩
  obtain ⟨t',ht',hs⟩:=h.get i u hu;rw [ht] at ht';cases ht';obtain ⟨g1,g2⟩:=h3 i u hu;exact ⟨by rw [<-g1];exact hs.length.symm,bA.sub hs g2⟩
abbrev zI (z:Int):List aD:=[.int .i64 z]
theorem at3 (zs:List Int) (hz:∀ z∈zs,-9223372036854775808<=z/\z<9223372036854775808) (hs:zs.length<1099511627776):aQ prog 71 [(.one (.slice 1 (zs.map zI)):aJ)] (.ret [.one (sQ (zs.map fun (z:Int)=>(z:Rat)))]):=by
 refine eF func71 aC5 ?_;refine bV {i:Nat // i<=zs.length} (fun g=>[.one (.int .i64 (g.1:Int)), .rows (rQ ((zs.take g.1).map fun (z:Int)=>(z:Rat)))]) (fun g=>zs.length-g.1) ⟨0,cX _⟩ aW.rfl (fun _=>rfl) ?_;rintro ⟨i,hi⟩;dsimp only [aF,aG] at hi ⊢;have htl:((zs.take i).map fun (z:Int)=>(z:Rat)).length=i:=by rw [aL,List.length_take];omega
 apply vn (aO aM3 (aL _)) rfl;apply vn bL rfl;refine vs _ rfl ?_ ?_<;>intro h3
 .obtain ⟨z,hz'⟩:∃ z,zs[i]? = some z:=⟨_,bZ (by omega)⟩
  have hzb:=hz z (fU hz');apply vn (aI (f:=zI) aM3 (m:=i) (by omega) (Int.toNat_natCast i) hz') rfl;apply vn (cD ag2) rfl;dsimp only [aF,aG];apply aA (Cw z hzb.1 hzb.2) rfl;apply eT (us:=[qC (z:Rat)]) rfl;refine kV (xs:=(zs.take i).map fun (z:Int)=>(z:Rat)) (x:=(z:Rat)) (f:=qC) rfl rfl (by omega) (by simp only [maxLen];omega) ?_;rw [show (zs.take i).map (fun (z:Int)=>(z:Rat)) ++ [(z:Rat)]=(zs.take (i+1)).map fun (z:Int)=>(z:Rat) by rw [List.take_add_one,hz',List.map_append];rfl];apply vn (aC (by omega) (by omega)) rfl;dsimp only [aF,aG];exact bB rfl ⟨⟨i+1,by omega⟩,aW.rfl,by show zs.length-(i+1)<zs.length-i;omega⟩
 rw [List.take_of_length_le (show zs.length<=i by omega)];exact aK rfl
def jK (p:List Rat) (q:Rat):List Rat:=if q=0 then [] else YJ p (((1:Int):Rat)/q)
theorem WL (p:List Rat) (q:Rat) (A B:Nat) (hl:p.length<1099511627776) (hp:∀ a∈p,Fit A a) (hq:Fit B q) (hA1:1<=A:=by omega) (hA:A+B<=17179869000:=by omega):aQ prog 228 [(.one (sQ p):aJ),(qT q:aJ)] (.ret [.one (sQ (jK p q))]):=by
 refine eF func228 au5 ?_;apply aA (iE _) rfl;apply vn dA rfl;refine vs _ rfl ?_ ?_<;>intro h2
 .rw [jK,if_pos (sign_zero.1 ‹_›)];exact jN ⟨aD.Sub.nil,trivial⟩
 apply aA (cK 1) rfl;apply aA (iZ _ _ 62 B (Fit.int (by omega) (by omega)) hq) rfl;rw [pE];dsimp only [aF,aG];apply aA (EN _ _ A (62+B) hA1 hp ((Fit.int (by omega) (by omega)).div hq) hl) rfl;dsimp only [aF,aG];rw [show YJ p (((1:Int):Rat)/q)=jK p q by rw [jK,if_neg fun h=>‹¬ _› (sign_zero.2 h)]];exact aK rfl
theorem pK (kn:List Rat) (d:Nat) (hs:kn.length<1099511627776:=by omega) (hd:d<1099511627776:=by omega):aQ prog 104 [(.agg [sQ kn, .int .i64 (d:Int)]:aJ)] (.ret [.one (.int .i64 ((kn.length:Int)-(d:Int)-1))]):=by
 refine eF func104 Uf ?_;apply vn (aO aZ (aL _)) rfl;apply vn (aE (by omega) (by omega)) rfl;apply vn (aE (by omega) (by omega)) rfl;exact aK rfl
theorem VF (kn:List Rat) (d:Nat) (hs:kn.length<1099511627776:=by omega) (hd:d<kn.length:=by omega):aQ prog 108 [(.agg [sQ kn, .int .i64 (d:Int)]:aJ)] (.ret [qT (kn.getD (kn.length-1-d) 0)]):=by
 refine eF func108 aw8 ?_;apply vn (aO aZ (aL _)) rfl;apply vn (aE (by omega) (by omega)) rfl;apply vn (aE (by omega) (by omega)) rfl;dsimp only [aF,aG];apply vn (aI aZ (m:=kn.length-1-d) (by omega) (by omega) (aH (show kn.length-1-d<kn.length by omega))) rfl;apply vn (aM bU (by decide) (by simp) (.inl rfl)) rfl;exact aK rfl
theorem ab7 (kn:List Rat) (d i:Nat) (hs:kn.length<1099511627776:=by omega) (hd:d+1<=kn.length:=by omega) (hi:i<kn.length-d-1:=by omega):aQ prog 106 [(.agg [sQ kn, .int .i64 (d:Int)]:aJ),(.one (.int .i64 (i:Int)):aJ)] (.ret [.one (sQ ((List.replicate (kn.length-d-1) 0).set i ((1:Int):Rat)))]):=by
 refine eF func106 ae4 ?_;apply aA (pK kn d hs) rfl;rw [show (kn.length:Int)-(d:Int)-1=((kn.length-d-1:Nat):Int) by omega];refine xE (n:=kn.length-d-1) (m:=kn.length-d-1) (us:=List.replicate (kn.length-d-1) z3) rfl rfl rfl (aY _) (by omega) (by simp only [maxLen];omega) ?_;apply aA (cK 1) rfl;refine qH rfl rfl (by omega) (by rw [List.length_replicate];omega) ?_;refine NM (ts:=List.replicate (kn.length-d-1) z3) (us:=(List.replicate (kn.length-d-1) z3).set i (qC ((1:Int):Rat))) rfl rfl (by omega) (cells:=z3) (by rw [Int.toNat_natCast,List.getElem?_replicate,if_pos (by omega)]) (by rw [Int.toNat_natCast];rfl) ?_;dsimp only [aF,aG];refine jN ⟨aj4 ?_,trivial⟩;rw [rQ,List.map_set,List.map_replicate];exact Dn ⟨aD.Sub.same,aD.Sub.same,aD.Sub.same,trivial⟩ i (El kY _)
def uE (kn:List Rat) (i:Nat):Nat->Nat->List Rat
 | 0,j=>if j=i then [((1:Int):Rat)] else []
 | e+1,j=>if i<j\/j+(e+1)<i then [] else
   vB (iM (jK [-(kn.getD j 0),((1:Int):Rat)] (kn.getD (j+(e+1)) 0-kn.getD j 0)) (uE kn i e j)) (iM (jK [kn.getD (j+(e+1)+1) 0,((-1:Int):Rat)] (kn.getD (j+(e+1)+1) 0-kn.getD (j+1) 0)) (uE kn i e (j+1)))
def wC (A:Nat):Nat->Nat
 | 0=>62
 | e+1=>2*((3*A+130)*3+wC A e*(e+2)+7)+1
theorem lU {p:List Rat} {q:Rat}:(jK p q).length<=p.length:=by
 unfold jK;split
 .exact cX _
 .exact Nat.le_trans (fR _) (by rw [aL,nZ];exact aY _)
theorem NQ {A B:Nat} {p:List Rat} {q:Rat} (hA:1<=A) (hp:∀ a∈p,Fit A a) (hq:Fit B q):∀ a∈jK p q,Fit (A+(62+B)) a:=by
 intro a ha;unfold jK at ha;split at ha
 .cases ha
 .have h:=oD ha;obtain ⟨i,_,rfl⟩:=eH.1 h;exact (aB hp i hA).mul ((Fit.int (n:=1) (B:=62) (by omega) (by omega)).div hq)
theorem lR (kn:List Rat) (i:Nat):∀ e j,(uE kn i e j).length<=e+1
 | 0,j=>by unfold uE;split<;>simp
 | e+1,j=>by
   unfold uE;split
   .exact cX _
   .have h1:=sK (jK [-(kn.getD j 0),((1:Int):Rat)] (kn.getD (j+(e+1)) 0-kn.getD j 0)) (uE kn i e j);have h2:=sK (jK [kn.getD (j+(e+1)+1) 0,((-1:Int):Rat)] (kn.getD (j+(e+1)+1) 0-kn.getD (j+1) 0)) (uE kn i e (j+1));have h3:=lR kn i e j;have h4:=lR kn i e (j+1);have h5:=lU (p:=[-(kn.getD j 0),((1:Int):Rat)]) (q:=kn.getD (j+(e+1)) 0-kn.getD j 0);have h6:=lU (p:=[kn.getD (j+(e+1)+1) 0,((-1:Int):Rat)]) (q:=kn.getD (j+(e+1)+1) 0-kn.getD (j+1) 0);simp only [List.length_cons,List.length_nil] at h5 h6;exact Nat.le_trans (Sj _ _) (by omega)
theorem xS {A:Nat} {a b:Rat} (ha:Fit A a) (hb:Fit 62 b):∀ x ∈ [a,b],Fit (A+62) x:=fun x hx=>by
 rcases List.mem_cons.1 hx with rfl | hx
 .exact ha.mono (by omega)
 .rw [List.mem_singleton.1 hx];exact hb.mono (by omega)
section
variable {A:Nat} {kn:List Rat} (hA1:1<=A) (hk:∀ a∈kn,Fit A a)
include hA1 hk
theorem WB (e j:Nat):∀ a∈jK [-(kn.getD j 0),((1:Int):Rat)] (kn.getD (j+(e+1)) 0-kn.getD j 0),Fit (3*A+130) a:=fun a ha=>
 (NQ (by omega) (xS (aB hk j hA1).neg (Fit.int (by omega) (by omega))) ((aB hk _ hA1).sub (aB hk _ hA1)) a ha).mono (by omega)
theorem VZ (e j:Nat):∀ a∈jK [kn.getD (j+(e+1)+1) 0,((-1:Int):Rat)] (kn.getD (j+(e+1)+1) 0-kn.getD (j+1) 0),Fit (3*A+130) a:=fun a ha=>
 (NQ (by omega) (xS (aB hk _ hA1) (Fit.int (by omega) (by omega))) ((aB hk _ hA1).sub (aB hk _ hA1)) a ha).mono (by omega)
theorem lM (i:Nat):∀ e j,∀ a∈uE kn i e j,Fit (wC A e) a
 | 0,j=>by
   intro a ha;unfold uE at ha;split at ha
   .rw [List.mem_singleton.1 ha];exact (Fit.int (n:=1) (B:=62) (by omega) (by omega):Fit 62 _)
   .cases ha
 | e+1,j=>by
   intro a ha;unfold uE at ha;split at ha
   .cases ha
   .have h3:=lR kn i e j;have h4:=lR kn i e (j+1);have h5:=lU (p:=[-(kn.getD j 0),((1:Int):Rat)]) (q:=kn.getD (j+(e+1)) 0-kn.getD j 0);have h6:=lU (p:=[kn.getD (j+(e+1)+1) 0,((-1:Int):Rat)]) (q:=kn.getD (j+(e+1)+1) 0-kn.getD (j+1) 0);simp only [List.length_cons,List.length_nil] at h5 h6
    have m1:∀ a∈iM (jK [-(kn.getD j 0),((1:Int):Rat)] (kn.getD (j+(e+1)) 0-kn.getD j 0)) (uE kn i e j),Fit ((3*A+130)*3+wC A e*(e+2)+7) a:=fun a ha=>(rX (WB hA1 hk e j) (lM i e j) (by omega) a ha).mono (by
     have:=Nat.mul_le_mul_left (3*A+130) (show (jK [-(kn.getD j 0),((1:Int):Rat)] (kn.getD (j+(e+1)) 0-kn.getD j 0)).length+1<=3 by omega);have:=Nat.mul_le_mul_left (wC A e) (show (uE kn i e j).length+1<=e+2 by omega);omega)
    have m2:∀ a∈iM (jK [kn.getD (j+(e+1)+1) 0,((-1:Int):Rat)] (kn.getD (j+(e+1)+1) 0-kn.getD (j+1) 0)) (uE kn i e (j+1)),Fit ((3*A+130)*3+wC A e*(e+2)+7) a:=fun a ha=>(rX (VZ hA1 hk e j) (lM i e (j+1)) (by omega) a ha).mono (by
     have:=Nat.mul_le_mul_left (3*A+130) (show (jK [kn.getD (j+(e+1)+1) 0,((-1:Int):Rat)] (kn.getD (j+(e+1)+1) 0-kn.getD (j+1) 0)).length+1<=3 by omega);have:=Nat.mul_le_mul_left (wC A e) (show (uE kn i e (j+1)).length+1<=e+2 by omega);omega)
    exact (QG (by omega) (by omega) m1 m2 a ha).mono (by rw [wC];omega)
end
theorem NA (kn:List Rat) (d i j e A:Nat) (hA1:1<=A) (hk:∀ a∈kn,Fit A a) (hs:kn.length<1000000000) (hA:wC A e<=1000000000) (hij:i<1000000000) (he:e<=60) (hj:e=0\/j+e+1<kn.length) (hj2:j<1000000000) (ih:∀ e' j',e=e'+1->j'=j\/j'=j+1->aQ prog 188 [.agg [sQ kn, .int .i64 (d:Int), .int .i64 (i:Int)], .one (.int .i64 (j':Int)), .one (.int .i64 (e':Int))] (.ret [.one (sQ (uE kn i e' j'))])):aQ prog 188 [(.agg [sQ kn, .int .i64 (d:Int), .int .i64 (i:Int)]:aJ),(.one (.int .i64 (j:Int)):aJ),(.one (.int .i64 (e:Int)):aJ)] (.ret [.one (sQ (uE kn i e j))]):=by
 refine eF func188 Xm ?_;apply vn dA rfl;refine vs _ rfl ?_ ?_<;>intro h1
 .obtain rfl:e=0:=by omega
  apply vn dA rfl;refine vs _ rfl ?_ ?_<;>intro h3
  .apply aA (cK 1) rfl;apply eT (us:=[qC ((1:Int):Rat)]) rfl;dsimp only [aF,aG];rw [show uE kn i 0 j = [((1:Int):Rat)] by rw [uE,if_pos (by omega)]];exact aK rfl
  rw [show uE kn i 0 j = [] by rw [uE,if_neg (by omega)]];exact jN ⟨aD.Sub.nil,trivial⟩
 obtain ⟨e,rfl⟩:∃ e',e=e'+1:=⟨e-1,by omega⟩
 have hb1:=WB hA1 hk e j;have hb2:=VZ hA1 hk e j;have hl3:=lR kn i e j;have hl4:=lR kn i e (j+1);have hl5:=lU (p:=[-(kn.getD j 0),((1:Int):Rat)]) (q:=kn.getD (j+(e+1)) 0-kn.getD j 0);have hl6:=lU (p:=[kn.getD (j+(e+1)+1) 0,((-1:Int):Rat)]) (q:=kn.getD (j+(e+1)+1) 0-kn.getD (j+1) 0);simp only [List.length_cons,List.length_nil] at hl5 hl6;have hx:=hA;rw [wC] at hx;have hq1:=Nat.mul_le_mul_left (3*A+130) (show (jK [-(kn.getD j 0),((1:Int):Rat)] (kn.getD (j+(e+1)) 0-kn.getD j 0)).length+1<=3 by omega);have hq2:=Nat.mul_le_mul_left (wC A e) (show (uE kn i e j).length+1<=e+2 by omega);have hq3:=Nat.mul_le_mul_left (3*A+130) (show (jK [kn.getD (j+(e+1)+1) 0,((-1:Int):Rat)] (kn.getD (j+(e+1)+1) 0-kn.getD (j+1) 0)).length+1<=3 by omega);have hq4:=Nat.mul_le_mul_left (wC A e) (show (uE kn i e (j+1)).length+1<=e+2 by omega);apply vn bL rfl;refine vs _ rfl ?_ ?_<;>intro h9
 .rw [show uE kn i (e+1) j = [] by rw [uE,if_pos (by omega)]];exact jN ⟨aD.Sub.nil,trivial⟩
 apply vn (aC (by omega) (by omega)) rfl;apply vn gE rfl;refine vs _ rfl ?_ ?_<;>intro h13
 .rw [show uE kn i (e+1) j = [] by rw [uE,if_pos (by omega)]];exact jN ⟨aD.Sub.nil,trivial⟩
 apply vn (aI aZ (m:=j) (by omega) (Int.toNat_natCast j) (aH (show j<kn.length by omega))) rfl;dsimp only [aF,aG];apply vn (aM bU (by decide) (by simp) (.inl rfl)) rfl;apply aA (Pf _) rfl;apply aA (cK 1) rfl;apply eT (us:=rQ [-(kn.getD j 0),((1:Int):Rat)]) rfl;dsimp only [aF,aG];apply vn (aC (by omega) (by omega)) rfl;dsimp only [aF,aG];apply vn (aI aZ (m:=j+(e+1)) (by omega) (by omega) (aH (show j+(e+1)<kn.length by omega))) rfl;apply vn (aM bU (by decide) (by simp) (.inl rfl)) rfl;dsimp only [aF,aG];apply vn (aI aZ (m:=j) (by omega) (Int.toNat_natCast j) (aH (show j<kn.length by omega))) rfl;apply vn (aM bU (by decide) (by simp) (.inl rfl)) rfl;apply aA (jG _ _ A A (aB hk _ hA1) (aB hk _ hA1)) rfl;apply aA (WL _ _ (A+62) (A+A+1) (by simp) (xS (aB hk j hA1).neg (Fit.int (by omega) (by omega))) ((aB hk _ hA1).sub (aB hk _ hA1))) rfl;dsimp only [aF,aG];apply vn (aE (by omega) (by omega)) rfl;dsimp only [aF,aG];rw [show ((e+1:Nat):Int)-1=(e:Int) by omega];apply aA (ih e j rfl (.inl rfl)) rfl;apply aA (Ov _ _ (3*A+130) (wC A e) hb1 (lM hA1 hk i e j)) rfl;apply vn (aC (by omega) (by omega)) rfl;apply vn (aC (by omega) (by omega)) rfl;dsimp only [aF,aG];apply vn (aI aZ (m:=j+(e+1)+1) (by omega) (by omega) (aH (show j+(e+1)+1<kn.length by omega))) rfl;apply vn (aM bU (by decide) (by simp) (.inl rfl)) rfl;apply aA (cK (-1)) rfl;apply eT (us:=rQ [kn.getD (j+(e+1)+1) 0,((-1:Int):Rat)]) rfl;dsimp only [aF,aG];apply vn (aC (by omega) (by omega)) rfl;apply vn (aC (by omega) (by omega)) rfl;dsimp only [aF,aG];apply vn (aI aZ (m:=j+(e+1)+1) (by omega) (by omega) (aH (show j+(e+1)+1<kn.length by omega))) rfl;apply vn (aM bU (by decide) (by simp) (.inl rfl)) rfl;apply vn (aC (by omega) (by omega)) rfl;dsimp only [aF,aG];apply vn (aI aZ (m:=j+1) (by omega) (by omega) (aH (show j+1<kn.length by omega))) rfl;apply vn (aM bU (by decide) (by simp) (.inl rfl)) rfl;apply aA (jG _ _ A A (aB hk _ hA1) (aB hk _ hA1)) rfl;apply aA (WL _ _ (A+62) (A+A+1) (by simp) (xS (aB hk _ hA1) (Fit.int (by omega) (by omega))) ((aB hk _ hA1).sub (aB hk _ hA1))) rfl;dsimp only [aF,aG];apply vn (aC (by omega) (by omega)) rfl;dsimp only [aF,aG];rw [show ((j:Int)+1)=((j+1:Nat):Int) by omega];apply vn (aE (by omega) (by omega)) rfl;dsimp only [aF,aG];rw [show ((e+1:Nat):Int)-1=(e:Int) by omega];apply aA (ih e (j+1) rfl (.inr rfl)) rfl;apply aA (Ov _ _ (3*A+130) (wC A e) hb2 (lM hA1 hk i e (j+1))) rfl;dsimp only [aF,aG];apply aA (Pe _ _ _ _ (fun a ha=>(rX hb1 (lM hA1 hk i e j) (by omega) a ha).mono (by omega)) (fun a ha=>(rX hb2 (lM hA1 hk i e (j+1)) (by omega) a ha).mono (by omega)) (Nat.lt_of_le_of_lt (sK _ _) (by omega)) (show 1<=(3*A+130)*3+wC A e*(e+2)+7 by omega) (show 1<=(3*A+130)*3+wC A e*(e+2)+7 by omega) (Nat.lt_of_le_of_lt (sK _ _) (by omega))) rfl;dsimp only [aF,aG];rw [show uE kn i (e+1) j=_ by rw [uE,if_neg (by omega)]];exact aK rfl
theorem CD (kn:List Rat) (d i A:Nat) (hA1:1<=A) (hk:∀ a∈kn,Fit A a) (hs:kn.length<1000000000) (hij:i<1000000000):∀ (e j:Nat),wC A e<=1000000000->e<=60->(e=0\/j+e+1<kn.length)->j<999999900-e->aQ prog 188 [.agg [sQ kn, .int .i64 (d:Int), .int .i64 (i:Int)], .one (.int .i64 (j:Int)), .one (.int .i64 (e:Int))] (.ret [.one (sQ (uE kn i e j))])
 | 0,j,hA,he,hj,hj2=>NA kn d i j 0 A hA1 hk hs hA hij he hj (by omega) fun e' j' h=>by omega
 | e+1,j,hA,he,hj,hj2=>NA kn d i j (e+1) A hA1 hk hs hA hij he hj (by omega) fun e' j' h hj'=>by
   obtain rfl:e'=e:=by omega
   have hx:=hA;rw [wC] at hx;have h9:=Nat.le_mul_of_pos_right (wC A e') (show 0<e'+2 by omega);exact CD kn d i A hA1 hk hs hij e' j' (by omega) (by omega) (by omega) (by omega)
open Go Go.Proofs Tryz Ord
def aE4:Tr:=aX 188 [(.agg [(U 0 0),(U 0 1),(U 2 0)]),(W 19 0),(W 0 1)] [none] [55,56,59] [228,3,3] 98 false (eI 1 0 19 0 28 61 62 (dF 25 0 (some 3) 46 63 (aX 125 [(W 24 0),(G3 26)] [none] [60,64] [98,46] 98 true (aX 66 [(W 18 0),(W 27 0)] [none] [54,65] [98,98] 98 true (bD .add 3 52 1 19 0 3 (.back 1 [lV 28 0,lV 29 0]))))))
def aw6:Tr:=dF 24 0 (some 3) 46 72 (.need (.lit 3 [[(.u 25 0),(.u 25 1),(.u 25 2)]]) (.buildSlice 28 1 #[(0,(tT 73))]) 28 false (.need (.app 3 56 (some 3) none (some 26)) (.call ⟨.builtin .append,#[(tT 68),(tT 74)],#[28,28]⟩) 28 false (.need (.lit 1 [[(.u 18 0)]]) (.buildSlice 29 1 #[(0,(tT 78))]) 29 false (.need (.app 1 24 (some 4) none (some 28)) (.call ⟨.builtin .append,#[(tT 77),(tT 79)],#[29,29]⟩) 29 false (bD .add 3 21 1 2 0 3 (.back 0 [lV 30 0, .row 27, .row 29]))))))
def aA7:Tr:=.loop 1 [lN,lV 17 0] (aX 104 [(G2 0)] [none] [47] [157] 3 false (bD .sub 3 48 1 20 0 3 (.need (.prim [(W 2 0),(W 21 0)] none) (.call ⟨.builtin .min,#[(tT 45),(tT 49)],#[3,3]⟩) 3 false (cN .leq 3 44 50 19 0 22 0 4 (.split (.u 23 0) aE4 (eI 0 0 2 0 28 70 71 aw6))))))
def bg3:Tr:=eI 0 0 11 0 28 29 31 (dF 12 0 (some 3) 46 32 (aX 67 [(G3 10),(G3 13)] [none] [27,33] [46,46] 3 true (bD .eql 3 34 0 14 0 4 (.split (.u 15 0) (bD .add 3 21 1 2 0 3 (.back 0 [lV 16 0, .row 3, .row 4])) (cN .sub 3 39 41 2 0 0 1 3 (.need (.prim [(W 16 0),(WK 0)] none) (.call ⟨.builtin .max,#[(tT 42),(.const (I3 0))],#[3,3]⟩) 3 false aA7))))))
def bi1:Tr:=cN .sub 3 16 18 6 0 0 1 3 (cN .lss 3 12 19 2 0 7 0 4 (.split (.u 8 0) (eI 0 0 2 0 28 24 25 (dF 9 0 (some 3) 46 26 (bD .add 3 30 1 2 0 3 bg3))) (aX 108 [(G2 0)] [(some 3)] [85] [157] 46 true (.need (.lit 3 [[(.u 9 0),(.u 9 1),(.u 9 2)]]) (.buildSlice 28 1 #[(0,(tT 86))]) 28 false (.need (.app 3 56 (some 3) none (some 10)) (.call ⟨.builtin .append,#[(tT 84),(tT 87)],#[28,28]⟩) 28 false (.ret [(.agg [(.c (.sr 3 11)),(.c (.sr 1 4))])]))))))
def bk1:Tr:=.loop 0 [lV 0 1, .nilrow, .nilrow] (dD 0 0 14 28 (bD .sub 3 15 1 5 0 3 bi1))
theorem Vw:aV prog f105 (fun _=>none) [.v (some 2), .v none]=bk1:=by kernel_rfl
theorem PH {A B:Nat} {p:List Rat} {k:Rat} (hA:1<=A) (hp:∀ a∈p,Fit A a) (hk:Fit B k):∀ a∈YJ p k,Fit (A+B) a:=by
 intro a ha;obtain ⟨i,_,rfl⟩:=eH.1 (oD ha);exact (aB hp i hA).mul hk
theorem Ph (p:List Rat) (k:Rat):(YJ p k).length<=p.length:=Nat.le_trans (fR _) (by rw [aL,nZ];exact aY _)
def Rd (kn:List Rat) (d:Nat) (cf:List Rat) (i lo n:Nat):List Rat:=(List.range n).foldl (fun acc t=>vB acc (YJ (uE kn i d (lo+t)) (cf.getD (lo+t) 0))) []
theorem zU (kn:List Rat) (d:Nat) (cf:List Rat) (i lo n:Nat):Rd kn d cf i lo (n+1)=vB (Rd kn d cf i lo n) (YJ (uE kn i d (lo+n)) (cf.getD (lo+n) 0)):=by
 rw [Rd,List.range_succ,List.foldl_append];rfl
theorem Sf (kn:List Rat) (d:Nat) (cf:List Rat) (i lo:Nat):∀ n,(Rd kn d cf i lo n).length<=d+1
 | 0=>cX _
 | n+1=>by
   rw [zU];have h1:=Sf kn d cf i lo n;have h2:=Ph (uE kn i d (lo+n)) (cf.getD (lo+n) 0);have h3:=lR kn i d (lo+n);exact Nat.le_trans (Sj _ _) (by omega)
theorem Tj {A:Nat} {kn cf:List Rat} (hA1:1<=A) (hk:∀ a∈kn,Fit A a) (hc:∀ a∈cf,Fit A a) (d i lo:Nat) (hb:1<=wC A d):∀ n,∀ a∈Rd kn d cf i lo n,Fit (1+n*(wC A d+A+1)) a
 | 0=>fun a ha=>by cases ha
 | n+1=>fun a ha=>by
   rw [zU] at ha;exact (QG (by omega) (by omega) (Tj hA1 hk hc d i lo hb n) (PH hb (lM hA1 hk i d (lo+n)) (aB hc (lo+n) hA1)) a ha).mono (by rw [Nat.add_mul];omega)
def zK (kn:List Rat) (d:Nat) (cf:List Rat) (i:Nat):List Rat:=Rd kn d cf i (i-d) (min i (kn.length-d-1-1)+1-(i-d))
def yE (kn:List Rat) (d i:Nat):List Nat:=(List.range i).filter fun t=>decide (d<=t/\kn.getD t 0≠kn.getD (t+1) 0)
theorem an2 {kn:List Rat} {d i:Nat} (h:¬ (d<=i/\kn.getD i 0≠kn.getD (i+1) 0)):yE kn d (i+1)=yE kn d i:=by
 rw [yE,List.range_succ,List.filter_append,List.filter_cons_of_neg (by simpa using h)];simp [yE]
theorem Rh {kn:List Rat} {d i:Nat} (h:d<=i/\kn.getD i 0≠kn.getD (i+1) 0):yE kn d (i+1)=yE kn d i ++ [i]:=by
 rw [yE,List.range_succ,List.filter_append,List.filter_cons_of_pos (by simpa using h)];simp [yE]
theorem av4 (kn:List Rat) (d i:Nat):(yE kn d i).length<=i:=by
 have:=List.length_filter_le (fun t=>decide (d<=t/\kn.getD t 0≠kn.getD (t+1) 0)) (List.range i);rw [nZ] at this;exact this
theorem aa4 (kn:List Rat) (d:Nat):yE kn d d = []:=by
 rw [yE,List.filter_eq_nil_iff];intro t ht;have:=List.mem_range.1 ht;simp;omega
theorem aH9 (A:Nat):∀ e,1<=wC A e
 | 0=>by simp [wC]
 | e+1=>by rw [wC];omega
theorem zR {a b:Rat}:gB a b=0↔a=b:=by
 unfold gB;split
 .rename_i h;constructor
  .intro h';cases h'
  .rintro rfl;exact absurd h (Rat.lt_irrefl)
 .split
  .rename_i h1 h;constructor
   .intro h';cases h'
   .rintro rfl;exact absurd h (Rat.lt_irrefl)
  .rename_i h1 h2;exact ⟨fun _=>Rat.le_antisymm (Rat.not_lt.1 h2) (Rat.not_lt.1 h1),fun _=>rfl⟩
theorem TY (kn cf:List Rat) (d A:Nat) (hk:∀ a∈kn,Fit A a) (hc:∀ a∈cf,Fit A a) (hcl:cf.length=kn.length-d-1) (hA:wC A d+A<=10000) (hA1:1<=A:=by omega) (hs:kn.length<1000000:=by omega) (hd:d<=60:=by omega) (h2:2*d+2<=kn.length:=by omega):aQ prog 105 [(.agg [sQ kn, .int .i64 (d:Int)]:aJ),(.one (sQ cf):aJ)] (.ret [.agg [sQ ((yE kn d (kn.length-1-d)).map (fun t=>kn.getD t 0) ++ [kn.getD (kn.length-1-d) 0]),eQ ((yE kn d (kn.length-1-d)).map (zK kn d cf))]]):=by
 refine eF func105 Vw ?_;have hb1:=aH9 A d;refine bV {i:Nat // d<=i/\i<=kn.length-1-d} (fun g=>[.one (.int .i64 (g.1:Int)), .rows (rQ ((yE kn d g.1).map fun t=>kn.getD t 0)), .rows (((yE kn d g.1).map (zK kn d cf)).map cQ)]) (fun g=>kn.length-g.1) ⟨d,aY _,by omega⟩ (by dsimp only;rw [aa4];exact aW.rfl) (fun _=>rfl) ?_;rintro ⟨i,hdi,hi⟩;dsimp only [aF,aG] at hdi hi ⊢;have hnl:=av4 kn d i;have hm1:((yE kn d i).map fun t=>kn.getD t 0).length<=i:=by rw [aL];exact hnl
 have hm2:((yE kn d i).map (zK kn d cf)).length<=i:=by rw [aL];exact hnl
 apply vn (aO aZ (aL _)) rfl;apply vn (aE (by omega) (by omega)) rfl;apply vn (aE (by omega) (by omega)) rfl;apply vn bL rfl;dsimp only [aF,aG];refine vs _ rfl ?_ ?_<;>intro h5
 .apply vn (aI aZ (m:=i) (by omega) (Int.toNat_natCast i) (aH (show i<kn.length by omega))) rfl;apply vn (aM bU (by decide) (by simp) (.inl rfl)) rfl;apply vn (aC (by omega) (by omega)) rfl;dsimp only [aF,aG];apply vn (aI aZ (m:=i+1) (by omega) (by omega) (aH (show i+1<kn.length by omega))) rfl;apply vn (aM bU (by decide) (by simp) (.inl rfl)) rfl;apply aA (fF _ _ A A (aB hk _ hA1) (aB hk _ hA1)) rfl;apply vn dA rfl;dsimp only [aF,aG];refine vs _ rfl ?_ ?_<;>intro h13
  .have heq:=zR.1 ‹_›;apply vn (aC (by omega) (by omega)) rfl;dsimp only [aF,aG];rw [<-an2 (kn:=kn) (d:=d) (i:=i) (by rintro ⟨_,h⟩;exact h heq)];exact bB rfl ⟨⟨i+1,by omega,by omega⟩,aW.rfl,by show kn.length-(i+1)<kn.length-i;omega⟩
  have hne:kn.getD i 0≠kn.getD (i+1) 0:=fun h=>‹¬ _› (zR.2 h);apply vn (aE (by omega) (by omega)) rfl;apply vn an6 rfl;dsimp only [aF,aG];rw [show max ((i:Int)-(d:Int)) 0=((i-d:Nat):Int) by omega];refine bV {n:Nat // n<=min i (kn.length-d-1-1)+1-(i-d)} (fun g=>[.one (sQ (Rd kn d cf i (i-d) g.1)), .one (.int .i64 ((i-d+g.1:Nat):Int))]) (fun g=>min i (kn.length-d-1-1)+1-(i-d)-g.1) ⟨0,cX _⟩ ⟨aD.Sub.nil, .inl rfl,trivial⟩ (fun _=>rfl) ?_;rintro ⟨n,hn⟩;dsimp only [aF,aG] at hn ⊢;have hcf:=Tj hA1 hk hc d i (i-d) hb1 n;have hcn:=Sf kn d cf i (i-d) n;have hnb:n*(wC A d+A+1)<=100*(wC A d+A+1):=Nat.mul_le_mul_right _ (by omega);apply aA (pK kn d) rfl;apply vn (aE (by omega) (by omega)) rfl;apply vn WM rfl;apply vn mQ rfl;dsimp only [aF,aG];refine vs _ rfl ?_ ?_<;>intro h23
  .have hlt:i-d+n<cf.length:=by omega
   apply aA (CD kn d i A hA1 hk (by omega) (by omega) d (i-d+n) (by omega) (by omega) (by omega) (by omega)) rfl;apply vn (aI aZ (m:=i-d+n) (by omega) (Int.toNat_natCast _) (aH hlt)) rfl;apply vn (aM bU (by decide) (by simp) (.inl rfl)) rfl;apply aA (EN _ _ (wC A d) A hb1 (lM hA1 hk i d _) (aB hc _ hA1) (Nat.lt_of_le_of_lt (lR _ _ _ _) (by omega))) rfl;dsimp only [aF,aG];apply aA (Pe _ _ (1+n*(wC A d+A+1)) (wC A d+A) hcf (PH hb1 (lM hA1 hk i d _) (aB hc _ hA1)) (Nat.lt_of_le_of_lt (Nat.le_trans (Ph _ _) (lR _ _ _ _)) (by omega))) rfl;rw [<-zU];apply vn (aC (by omega) (by omega)) rfl;dsimp only [aF,aG];exact bB rfl ⟨⟨n+1,by omega⟩,⟨.inl rfl, .inl (by rw [show ((i-d+(n+1):Nat):Int)=((i-d+n:Nat):Int)+1 by omega];rfl),trivial⟩,by show min i (kn.length-d-1-1)+1-(i-d)-(n+1)<min i (kn.length-d-1-1)+1-(i-d)-n;omega⟩
  rw [show Rd kn d cf i (i-d) n=zK kn d cf i by rw [zK,show n=min i (kn.length-d-1-1)+1-(i-d) by omega]];apply vn (aI aZ (m:=i) (by omega) (Int.toNat_natCast i) (aH (show i<kn.length by omega))) rfl;apply vn (aM bU (by decide) (by simp) (.inl rfl)) rfl;apply eT (us:=[qC (kn.getD i 0)]) rfl;refine kV (xs:=(yE kn d i).map fun t=>kn.getD t 0) (x:=kn.getD i 0) (f:=qC) rfl rfl (by omega) (by simp only [maxLen];omega) ?_;dsimp only [aF,aG];apply eT (us:=[cQ (zK kn d cf i)]) rfl;refine kV (xs:=(yE kn d i).map (zK kn d cf)) (x:=zK kn d cf i) (f:=cQ) rfl rfl (by omega) (by simp only [maxLen];omega) ?_;rw [show (yE kn d i).map (fun t=>kn.getD t 0) ++ [kn.getD i 0]=(yE kn d (i+1)).map fun t=>kn.getD t 0 by rw [Rh ⟨hdi,hne⟩,List.map_append];rfl,show (yE kn d i).map (zK kn d cf) ++ [zK kn d cf i]=(yE kn d (i+1)).map (zK kn d cf) by rw [Rh ⟨hdi,hne⟩,List.map_append];rfl];apply vn (aC (by omega) (by omega)) rfl;dsimp only [aF,aG];exact bB rfl ⟨⟨i+1,by omega,by omega⟩,aW.rfl,by show kn.length-(i+1)<kn.length-i;omega⟩
 obtain rfl:i=kn.length-1-d:=by omega
 apply aA (VF kn d) rfl;apply eT (us:=[qC (kn.getD (kn.length-1-d) 0)]) rfl;refine kV (xs:=(yE kn d (kn.length-1-d)).map fun t=>kn.getD t 0) (x:=kn.getD (kn.length-1-d) 0) (f:=qC) rfl rfl (by omega) (by simp only [maxLen];omega) ?_;exact aK rfl
open Go Go.Proofs Tryz Ord
def ak4:Tr:=.ret [(.agg [tN,tN]),(WK 2)]
def ai9:Tr:=.ret [(.agg [tN,tN]),(WK 3)]
def aS2:Tr:=.split (.u 6 0) ai9 (aX 104 [(G2 3)] [none] [25] [157] 3 false (cN .geq 3 24 26 2 0 7 0 4 (.split (.u 8 0) ai9 (aX 106 [(G2 3),(W 2 0)] [none] [31,32] [157,3] 28 true (aX 105 [(G2 3),(W 9 0)] [(some 2)] [30,33] [157,28] 31 true (.ret [(G2 10),(WK 0)]))))))
def bl1:Tr:=aX 103 [(W 0 0),(W 1 0)] [(some 2),none] [11,12] [28,3] 158 false (.need (.prim [(W 4 0)] none) (.unOp .not 4 (tT 17)) 4 false (.split (.u 5 0) ak4 (bD .lss 3 21 0 2 0 4 aS2)))
theorem ak9:aV prog f34 (fun _=>none) [.v none, .v none, .v none]=bl1:=by kernel_rfl
structure Fra (kn:List Rat) (d:Nat):Prop where
 hs:kn.length<=60
 hd:d<=5
 h2:2*d+2<=kn.length
 hr:gC false kn=true
 hm:∀ j,d+1<=j->j<kn.length->kn.getD j 0≠kn.getD (j-d-1) 0
 hf:gB (kn.getD d 0) (kn.getD (d+1) 0)<0
 hl:gB (kn.getD (kn.length-1-d-1) 0) (kn.getD (kn.length-1-d) 0)<0
theorem Nu (kn:List Rat) (d A:Nat) (hk:∀ a∈kn,Fit A a) (F:Fra kn d) (hA1:1<=A:=by omega) (hA:A<=1073741824:=by omega):aQ prog 103 [(.one (sQ kn):aJ),(.one (.int .i64 (d:Int)):aJ)] (.ret [.agg [sQ kn, .int .i64 (d:Int)], .one (.bool true)]):=by
 refine eF func103 Yk ?_;have hs:=F.hs;have hd:=F.hd;have h2:=F.h2;apply vn bL rfl;refine vs _ rfl ?_ ?_<;>intro h1
 .exfalso;omega
 apply vn gE rfl;refine vs _ rfl ?_ ?_<;>intro h4
 .exfalso;omega
 apply vn (aO aZ (aL _)) rfl;apply vn (zY) rfl;dsimp only [aF,aG];apply vn (aC (by omega) (by omega)) rfl;apply vn bL rfl;refine vs _ rfl ?_ ?_<;>intro h10
 .exfalso;omega
 apply vn (aO aZ (aL _)) rfl;apply vn gE rfl;dsimp only [aF,aG];refine vs _ rfl ?_ ?_<;>intro h14
 .exfalso;omega
 apply aA (vS kn false A hk hA1 hA) rfl;rw [F.hr];apply vn fO rfl;refine nY false rfl (fun h=>by cases h) (fun _=>?_);apply vn (aC (by omega) (by omega)) rfl;refine bV {j:Nat // d+1<=j/\j<=kn.length} (fun g=>[.one (.bool false), .one (.int .i64 (g.1:Int)), .one (.exact (.slice none 0 0)), .one (.int .i64 0)]) (fun g=>kn.length-g.1) ⟨d+1,aY _,by omega⟩ aW.rfl (fun _=>rfl) ?_;rintro ⟨j,hj1,hj2⟩;dsimp only [aF,aG] at hj1 hj2 ⊢;apply vn (aO aZ (aL _)) rfl;apply vn bL rfl;refine vs _ rfl ?_ ?_<;>intro h24
 .apply vn (aI aZ (m:=j) (by omega) (Int.toNat_natCast j) (aH (show j<kn.length by omega))) rfl;apply vn (aM bU (by decide) (by simp) (.inl rfl)) rfl;dsimp only [aF,aG];apply vn (aE (by omega) (by omega)) rfl;apply vn (aE (by omega) (by omega)) rfl;dsimp only [aF,aG];apply vn (aI aZ (m:=j-d-1) (by omega) (by omega) (aH (show j-d-1<kn.length by omega))) rfl;apply vn (aM bU (by decide) (by simp) (.inl rfl)) rfl;apply aA (fF _ _ A A (aB hk _ hA1) (aB hk _ hA1)) rfl;apply vn dA rfl;dsimp only [aF,aG];refine vs _ rfl ?_ ?_<;>intro h33
  .exact absurd (zR.1 ‹_›) (F.hm j hj1 (by omega))
  apply vn (aC (by omega) (by omega)) rfl;dsimp only [aF,aG];exact bB rfl ⟨⟨j+1,by omega,by omega⟩,aW.rfl,by show kn.length-(j+1)<kn.length-j;omega⟩
 apply vn (aO aZ (aL _)) rfl;apply vn (aE (by omega) (by omega)) rfl;apply vn (aE (by omega) (by omega)) rfl;dsimp only [aF,aG];apply vn (aI aZ (m:=d) (by omega) (Int.toNat_natCast d) (aH (show d<kn.length by omega))) rfl;apply vn (aM bU (by decide) (by simp) (.inl rfl)) rfl;apply vn (aC (by omega) (by omega)) rfl;dsimp only [aF,aG];apply vn (aI aZ (m:=d+1) (by omega) (by omega) (aH (show d+1<kn.length by omega))) rfl;apply vn (aM bU (by decide) (by simp) (.inl rfl)) rfl;apply aA (fF _ _ A A (aB hk _ hA1) (aB hk _ hA1)) rfl;apply vn bL rfl;dsimp only [aF,aG];refine vs _ rfl ?_ ?_<;>intro h47
 .apply vn (aE (by omega) (by omega)) rfl;dsimp only [aF,aG];apply vn (aI aZ (m:=kn.length-1-d-1) (by omega) (by omega) (aH (show kn.length-1-d-1<kn.length by omega))) rfl;apply vn (aM bU (by decide) (by simp) (.inl rfl)) rfl;dsimp only [aF,aG];apply vn (aI aZ (m:=kn.length-1-d) (by omega) (by omega) (aH (show kn.length-1-d<kn.length by omega))) rfl;apply vn (aM bU (by decide) (by simp) (.inl rfl)) rfl;apply aA (fF _ _ A A (aB hk _ hA1) (aB hk _ hA1)) rfl;apply vn bL rfl;dsimp only [aF,aG];rw [decide_eq_true F.hl];exact aK rfl
 exact absurd F.hf ‹_›
def ZA (kn:List Rat) (d i:Nat):List Rat:=(List.replicate (kn.length-d-1) 0).set i ((1:Int):Rat)
theorem Zv {A:Nat} {kn:List Rat} {d i:Nat} (hA:62<=A):∀ a∈ZA kn d i,Fit A a:=fun a ha=>by
 rcases List.mem_or_eq_of_mem_set ha with h | rfl
 .rw [(List.mem_replicate.1 h).2];exact Fit.zero (by omega)
 .exact (Fit.int (n:=1) (B:=62) (by omega) (by omega)).mono hA
theorem ZX (kn:List Rat) (d i A:Nat) (hA1:62<=A) (hk:∀ a∈kn,Fit A a) (F:Fra kn d) (hi:i<kn.length-d-1) (hA:wC A d+A<=10000):aQ prog 34 [(.one (sQ kn):aJ),(.one (.int .i64 (d:Int)):aJ),(.one (.int .i64 (i:Int)):aJ)] (.ret [.agg [sQ ((yE kn d (kn.length-1-d)).map (fun t=>kn.getD t 0) ++ [kn.getD (kn.length-1-d) 0]),eQ ((yE kn d (kn.length-1-d)).map (zK kn d (ZA kn d i)))], .one (.int .i64 0)]):=by
 refine eF func34 ak9 ?_;have hs:=F.hs;have hd:=F.hd;have h2:=F.h2;apply aA (Nu kn d A hk F) rfl;apply vn fO rfl;refine nY false rfl (fun h=>by cases h) (fun _=>?_);apply vn bL rfl;refine vs _ rfl ?_ ?_<;>intro h5
 .exfalso;omega
 apply aA (pK kn d) rfl;dsimp only [aF,aG];apply vn iU rfl;refine vs _ rfl ?_ ?_<;>intro h9
 .exfalso;omega
 apply aA (ab7 kn d i) rfl;apply aA (TY kn (ZA kn d i) d A hk (Zv hA1) (by rw [ZA,List.length_set,List.length_replicate]) hA) rfl;exact aK rfl
open Go Go.Proofs Tryz Ord
def bl5:Tr:=aX 129 [(W 0 0),(W 1 0)] [none] [6,7] [28,28] 4 true (.need (.prim [(W 2 0)] none) (.unOp .not 4 (tT 8)) 4 false (.split (.u 3 0) ak4 (aX 130 [(W 0 0),(W 1 0)] [(some 2)] [11,12] [28,28] 31 true (.ret [(G2 4),(WK 0)]))))
theorem Ui:aV prog f49 (fun _=>none) [.v none, .v none]=bl5:=by kernel_rfl
def bi0:Tr:=aX 67 [(G3 0),(G3 1)] [none] [4,5] [46,46] 3 true (bD .eql 3 6 0 2 0 4 am7)
theorem QY:aV prog f109 (fun _=>none) [.v (some 3), .ref 3]=bi0:=by kernel_rfl
def Mo:Tr:=.ret [(W 3 0)]
def KC:Tr:=.need (.prim [(W 2 0),(WK (0))] none) (.binOp .gtr 3 (.tmp 6) (.const (I3 (0))) 3) 4 false Mo
def JF:Tr:=.need (.call 67 [(.agg [(U 0 0),(U 0 1),(U 0 2)]),(.agg [(U 1 0),(U 1 1),(U 1 2)])] [none]) (.call ⟨.value (.func 67),#[(.tmp 4),(.tmp 5)],#[46,46]⟩) 3 true KC
theorem SY:aV prog f111 (fun _=>none) [.v (some 3), .ref 3]=JF:=by kernel_rfl
theorem Dx (x y sol:List Rat) (A B:Nat) (hA1:1<=A) (hA:A<=10000000) (hx:∀ a∈x,Fit A a) (hy:∀ a∈y,Fit A a) (hsf:∀ a∈sol,Fit A a) (hs:x.length<549755813000) (h2:2<=x.length) (hxy:y.length=x.length) (hxs:sol.length=x.length) (hgv:mO x y=true) (hT:Ia x.length (x.length+1) B (lE x y)) (hB:1<=B) (hg:∀ k,k<=x.length->gA B k<=1000000000) (hsol:fG (lE x y)=some sol) (hsh:∀ i,i+1<x.length->aQ prog 205 [.one (sQ (YA x y sol i)),qT (-(x.getD i 0))] (.ret [.one (sQ (fP x y sol i))])):aQ prog 49 [(.one (sQ x):aJ),(.one (sQ y):aJ)] (.ret [.agg (pB x ((List.range (x.length-1)).map (fP x y sol))), .one (.int .i64 0)]):=by
 refine eF func49 Ui ?_;apply aA (rA x y A hx hA1) rfl;rw [hgv];apply vn fO rfl;refine nY false rfl (fun h=>by cases h) (fun _=>?_);apply aA (Vr x y sol A B hA1 hA hx hy hsf hs h2 hxy hxs hT hB hg hsol hsh) rfl;exact aK rfl
end Go.Sy
