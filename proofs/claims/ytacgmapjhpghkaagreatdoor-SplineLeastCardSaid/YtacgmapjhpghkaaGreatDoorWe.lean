/- Part. -/
import Derived.Test.YtacgmapjhpghkaaGreatDoorWd
set_option linter.all false
namespace Go.Sy
open Go Go.Proofs Tryz Ord
def bj9:Tr:=eW 0 0 1 0 205 12 13 (eI 5 0 none 2 14 (aZ 63 [(W 6 0)] [(some 3)] [15] [2] 46 true (.need (.lit 3 [[(.u 7 0),(.u 7 1),(.u 7 2)]]) (.buildSlice 28 1 #[(0,(tT 16))]) 28 false (.need (.app 3 56 (some 2) none (some 8)) (.call ⟨.builtin .append,#[(tT 11),(tT 17)],#[28,28]⟩) 28 false (bI .add 3 9 1 1 0 3 (.back 0 [lV 10 0, .row 9]))))))
def aQ1:Tr:=.loop 0 [lK 0, .nilrow] (dS 0 0 6 205 (cU .lss 3 5 7 1 0 3 0 4 (.split (.u 4 0) bj9 (.ret [(.one (.c (.sr 3 2)))]))))
theorem aE2:aV prog f71 (fun _=>none) [.v none]=aQ1:=by kernel_rfl
def OA:Tr:=.ret [(.one (.c (.k (.slice none 0 0))))]
def bj1:Tr:=aZ 23 [(G3 1)] [none] [5] [46] 3 true (bI .eql 3 6 0 2 0 4 (.split (.u 3 0) OA (.need (.call 113 [(WK 1)] [(some 3)]) (.call ⟨.value (.func 113),#[(.const (I3 1))],#[3]⟩) 46 false (aZ 112 [(G3 4),(G3 1)] [(some 3)] [9,10] [46,46] 46 true (aZ 125 [(W 0 0),(G3 5)] [none] [8,11] [98,46] 98 true (.ret [(W 6 0)]))))))
theorem aw9:aV prog f228 (fun _=>none) [.v none, .v (some 3)]=bj1:=by kernel_rfl
def aE5:Tr:=aZ 228 [(.one (.c (.sr 3 27))),(G3 35)] [none] [66,79] [98,46] 98 false (bI .add 3 82 1 1 0 3 (bI .sub 3 84 1 2 0 3 (aZ 188 [(G3 0),(W 37 0),(W 38 0)] [none] [81,83,85] [228,3,3] 98 true (aZ 64 [(W 36 0),(W 39 0)] [none] [80,86] [98,98] 98 true (aZ 66 [(W 21 0),(W 40 0)] [none] [88,89] [98,98] 98 true (.ret [(W 41 0)]))))))
def aI8:Tr:=bI .add 3 70 1 28 0 3 (eW 0 0 29 0 28 67 71 (eI 30 0 (some 3) 46 72 (bI .add 3 75 1 1 0 3 (eW 0 0 32 0 28 74 76 (eI 33 0 (some 3) 46 77 (aZ 86 [(G3 31),(G3 34)] [(some 3)] [73,78] [46,46] 46 false aE5))))))
def aE3:Tr:=cU .add 3 59 60 1 0 2 0 3 (bI .add 3 61 1 22 0 3 (eW 0 0 23 0 28 58 62 (eI 24 0 (some 3) 46 63 (.need (.call 113 [(WK (-1))] [(some 3)]) (.call ⟨.value (.func 113),#[(.const (I3 (-1)))],#[3]⟩) 46 false (.need (.lit 3 [[(.u 25 0),(.u 25 1),(.u 25 2)],[(.u 26 0),(.u 26 1),(.u 26 2)]]) (.buildSlice 98 2 #[(0,(tT 64)),(1,(tT 65))]) 98 false (cU .add 3 68 69 1 0 2 0 3 aI8))))))
def aw8:Tr:=eW 0 0 1 0 28 46 47 (eI 15 0 (some 3) 46 48 (aZ 86 [(G3 14),(G3 16)] [(some 3)] [45,49] [46,46] 46 false (aZ 228 [(.one (.c (.sr 3 11))),(G3 17)] [none] [39,50] [98,46] 98 false (bI .sub 3 54 1 2 0 3 (aZ 188 [(G3 0),(W 1 0),(W 19 0)] [none] [52,53,55] [228,3,3] 98 true (aZ 64 [(W 18 0),(W 20 0)] [none] [51,56] [98,98] 98 true aE3))))))
def au0:Tr:=eI 7 0 (some 3) 46 35 (aZ 65 [(G3 8)] [(some 3)] [36] [46] 46 false (.need (.call 113 [(WK 1)] [(some 3)]) (.call ⟨.value (.func 113),#[(.const (I3 1))],#[3]⟩) 46 false (.need (.lit 3 [[(.u 9 0),(.u 9 1),(.u 9 2)],[(.u 10 0),(.u 10 1),(.u 10 2)]]) (.buildSlice 98 2 #[(0,(tT 37)),(1,(tT 38))]) 98 false (cU .add 3 41 42 1 0 2 0 3 (eW 0 0 12 0 28 40 43 (eI 13 0 (some 3) 46 44 aw8))))))
def be2:Tr:=.split (.u 3 0) (cU .eql 3 12 14 1 0 0 2 4 (.split (.u 4 0) (.need (.call 113 [(WK 1)] [(some 3)]) (.call ⟨.value (.func 113),#[(.const (I3 1))],#[3]⟩) 46 true (.need (.lit 3 [[(.u 5 0),(.u 5 1),(.u 5 2)]]) (.buildSlice 98 1 #[(0,(tT 16))]) 98 false (.ret [(.one (.c (.sr 3 6)))]))) OA)) (cU .lss 3 22 23 0 2 1 0 4 (.split (.u 4 0) OA (cU .add 3 28 29 1 0 2 0 3 (cU .gtr 3 27 30 0 2 5 0 4 (.split (.u 6 0) OA (eW 0 0 1 0 28 33 34 au0))))))
def bb4:Tr:=bI .eql 3 10 0 2 0 4 be2
theorem Yd:aV prog f188 (fun _=>none) [.v (some 3), .v none, .v none]=bb4:=by kernel_rfl
def ap5:Tr:=.ret [(W 3 0)]
def bj4:Tr:=dS 0 0 4 28 (cU .sub 3 5 7 1 0 0 1 3 (bI .sub 3 8 1 2 0 3 ap5))
theorem UQ:aV prog f104 (fun _=>none) [.v (some 2)]=bj4:=by kernel_rfl
def aS5:Tr:=eW 0 0 0 1 28 4 6 (eI 1 0 (some 3) 46 7 (.ret [(G3 2)]))
theorem ap0:aV prog f107 (fun _=>none) [.v (some 2)]=aS5:=by kernel_rfl
def aQ2:Tr:=dS 0 0 6 28 (bI .sub 3 7 1 1 0 3 (cU .sub 3 8 10 2 0 0 1 3 (eW 0 0 3 0 28 4 11 (eI 4 0 (some 3) 46 12 (.ret [(G3 5)])))))
theorem ay9:aV prog f108 (fun _=>none) [.v (some 2)]=aQ2:=by kernel_rfl
def bd4:Tr:=aZ 104 [(G2 0)] [none] [6] [157] 3 true (.need (.make [(.slice none 0 0),(.bool false),(.slice none 0 0)] 56 (.u 2 0) (.u 2 0)) (.makeSlice 28 (tT 7) (tT 7)) 28 false (.need (.call 113 [(WK 1)] [(some 3)]) (.call ⟨.value (.func 113),#[(.const (I3 1))],#[3]⟩) 46 true (.need (.idx 3 (.u 1 0)) (.indexAddr 28 (tT 9) (tT 10)) 0 false (.need (.strow 3 3 (.u 1 0) 0 [(.u 4 0),(.u 4 1),(.u 4 2)]) (.store 46 (tT 12) (tT 11)) 0 false (.ret [(.one (.c (.sr 3 5)))])))))
theorem ah6:aV prog f106 (fun _=>none) [.v (some 2), .v none]=bd4:=by kernel_rfl
def vJ:Tr:=.ret [(.agg [(U 0 0),(U 1 0)]),(tF false)]
def aH1:Tr:=eW 0 0 22 0 28 49 53 (eI 23 0 (some 3) 46 54 (aZ 67 [(G3 20),(G3 24)] [none] [48,55] [46,46] 3 true (bI .eql 3 56 0 25 0 4 (.split (.u 26 0) vJ (bI .add 3 43 1 14 0 3 (.back 0 [lV 13 0,lV 27 0,lV 15 0,lV 16 0]))))))
def aF3:Tr:=eW 0 0 29 0 28 77 79 (eI 30 0 (some 3) 46 80 (eW 0 0 21 0 28 82 83 (eI 32 0 (some 3) 46 84 (aZ 67 [(G3 31),(G3 33)] [none] [81,85] [46,46] 3 false (bI .lss 3 86 0 34 0 4 (.ret [(.agg [(U 0 0),(U 1 0)]),(W 35 0)]))))))
def az2:Tr:=bI .add 3 70 1 1 0 3 (eW 0 0 24 0 28 69 71 (eI 25 0 (some 3) 46 72 (aZ 67 [(G3 23),(G3 26)] [none] [68,73] [46,46] 3 false (bI .lss 3 74 0 27 0 4 (.split (.u 28 0) (bI .sub 3 78 1 21 0 3 aF3) vJ)))))
def aB9:Tr:=cU .lss 3 39 41 14 0 17 0 4 (.split (.u 18 0) (eW 0 0 14 0 28 45 46 (eI 19 0 (some 3) 46 47 (cU .sub 3 50 51 14 0 1 0 3 (bI .sub 3 52 1 21 0 3 aH1)))) (dS 0 0 59 28 (bI .sub 3 60 1 19 0 3 (cU .sub 3 61 62 20 0 1 0 3 (eW 0 0 1 0 28 65 66 (eI 22 0 (some 3) 46 67 az2))))))
def av5:Tr:=.split (.u 9 0) vJ (.need (.call 90 [(W 0 0),(tF false)] [none]) (.call ⟨.value (.func 90),#[(tT 32),(.const (.bool false))],#[28,4]⟩) 4 false (.need (.prim [(W 10 0)] none) (.unOp .not 4 (tT 33)) 4 false (.split (.u 11 0) vJ (bI .add 3 37 1 1 0 3 (.loop 0 [(.w (.one (.c (.k (.bool false))))),lV 12 0,lN,lK 0] (dS 0 0 40 28 aB9))))))
def bl9:Tr:=dS 0 0 19 28 (.need (.prim [(WK 2),(W 1 0)] none) (.binOp .mul 3 (.const (I3 2)) (tT 21) 3) 3 false (bI .add 3 22 2 5 0 3 (cU .lss 3 20 23 4 0 6 0 4 (.split (.u 7 0) vJ (dS 0 0 27 28 (bI .gtr 3 28 60 8 0 4 av5))))))
def bl0:Tr:=bI .lss 3 12 0 1 0 4 (.split (.u 2 0) vJ (bI .gtr 3 15 5 1 0 4 (.split (.u 3 0) vJ bl9)))
theorem YZ:aV prog f103 (fun _=>none) [.v none, .v none]=bl0:=by kernel_rfl
theorem am1 {sz:Nat} {us ts:List (List aD)} (h:bB (bB aD.Sub) us ts):(aD.slice sz us).Sub (.slice sz ts):=by
 refine .inr ⟨fun M w v h=>by obtain ⟨a,cap,rfl,_⟩:=h;exact ⟨_,_,_,rfl⟩,fun M w v hv=>?_⟩;obtain ⟨a,cap,rfl,hc,hm,he⟩:=hv;have hl:=h.length;refine ⟨a,cap,by rw [hl],by omega,hm,?_⟩;rcases he with he | ⟨b,off,cs,T,fz,rfl,h1,h2,h3⟩
 .exact .inl (List.length_eq_zero_iff.1 (by rw [<-hl,he];rfl))
 .refine .inr ⟨b,off,cs,T,fz,rfl,h1,h2,fun i t ht=>?_⟩;obtain ⟨u,hu⟩:∃ u,us[i]? = some u:=⟨_,cC (by have:=(dR.1 ht).1;omega)⟩
  obtain ⟨t',ht',hs⟩:=h.get i u hu;rw [ht] at ht';cases ht';obtain ⟨g1,g2⟩:=h3 i u hu;exact ⟨by rw [<-g1];exact hs.length.symm,bA.sub hs g2⟩
abbrev zI (z:Int):List aD:=[.int .i64 z]
theorem av8 (zs:List Int) (hz:∀ z∈zs,-9223372036854775808<=z/\z<9223372036854775808) (hs:zs.length<1099511627776):aQ prog 71 [(.one (.slice 1 (zs.map zI)):aJ)] (.ret [.one (sQ (zs.map fun (z:Int)=>(z:Rat)))]):=by
 refine eH func71 aE2 ?_;refine bZ {i:Nat // i<=zs.length} (fun g=>[.one (.int .i64 (g.1:Int)), .rows (rQ ((zs.take g.1).map fun (z:Int)=>(z:Rat)))]) (fun g=>zs.length-g.1) ⟨0,dD _⟩ aX.rfl (fun _=>rfl) ?_;rintro ⟨i,hi⟩;dsimp only [aE,aF] at hi ⊢;have htl:((zs.take i).map fun (z:Int)=>(z:Rat)).length=i:=by rw [aK,List.length_take];omega
 apply vn (aM aN9 (aK _)) rfl;apply vn bQ rfl;refine vs _ rfl ?_ ?_<;>intro h3
 .obtain ⟨z,hz'⟩:∃ z,zs[i]? = some z:=⟨_,cC (by omega)⟩
  have hzb:=hz z (gD hz');apply vn (aH (f:=zI) aN9 (m:=i) (by omega) (Int.toNat_natCast i) hz') rfl;apply vn (cH ag2) rfl;dsimp only [aE,aF];apply aA (wD z hzb.1 hzb.2) rfl;apply eK (us:=[qC (z:Rat)]) rfl;refine kX (xs:=(zs.take i).map fun (z:Int)=>(z:Rat)) (x:=(z:Rat)) (f:=qC) rfl rfl (by omega) (by simp only [maxLen];omega) ?_;rw [show (zs.take i).map (fun (z:Int)=>(z:Rat)) ++ [(z:Rat)]=(zs.take (i+1)).map fun (z:Int)=>(z:Rat) by rw [List.take_add_one,hz',List.map_append];rfl];apply vn (aB (by omega) (by omega)) rfl;dsimp only [aE,aF];exact bD rfl ⟨⟨i+1,by omega⟩,aX.rfl,by show zs.length-(i+1)<zs.length-i;omega⟩
 rw [List.take_of_length_le (show zs.length<=i by omega)];exact aL rfl
def jJ (p:List Rat) (q:Rat):List Rat:=if q=0 then [] else wF p (((1:Int):Rat)/q)
theorem XB (p:List Rat) (q:Rat) (A B:Nat) (hl:p.length<1099511627776) (hp:∀ a∈p,Fit A a) (hq:Fit B q) (hA1:1<=A:=by omega) (hA:A+B<=17179869000:=by omega):aQ prog 228 [(.one (sQ p):aJ),(qT q:aJ)] (.ret [.one (sQ (jJ p q))]):=by
 refine eH func228 aw9 ?_;apply aA (jW _) rfl;apply vn dP rfl;refine vs _ rfl ?_ ?_<;>intro h2
 .rw [jJ,if_pos (sign_zero.1 ‹_›)];exact jL ⟨aD.Sub.nil,trivial⟩
 apply aA (dE 1) rfl;apply aA (iZ _ _ 62 B (Fit.int (by omega) (by omega)) hq) rfl;rw [pM];dsimp only [aE,aF];apply aA (ED _ _ A (62+B) hA1 hp ((Fit.int (by omega) (by omega)).div hq) hl) rfl;dsimp only [aE,aF];rw [show wF p (((1:Int):Rat)/q)=jJ p q by rw [jJ,if_neg fun h=>‹¬ _› (sign_zero.2 h)]];exact aL rfl
theorem pV (kn:List Rat) (d:Nat) (hs:kn.length<1099511627776:=by omega) (hd:d<1099511627776:=by omega):aQ prog 104 [(.agg [sQ kn, .int .i64 (d:Int)]:aJ)] (.ret [.one (.int .i64 ((kn.length:Int)-(d:Int)-1))]):=by
 refine eH func104 UQ ?_;apply vn (aM bG (aK _)) rfl;apply vn (aG (by omega) (by omega)) rfl;apply vn (aG (by omega) (by omega)) rfl;exact aL rfl
theorem Wu (kn:List Rat) (d:Nat) (hs:kn.length<1099511627776:=by omega) (hd:d<kn.length:=by omega):aQ prog 108 [(.agg [sQ kn, .int .i64 (d:Int)]:aJ)] (.ret [qT (kn.getD (kn.length-1-d) 0)]):=by
 refine eH func108 ay9 ?_;apply vn (aM bG (aK _)) rfl;apply vn (aG (by omega) (by omega)) rfl;apply vn (aG (by omega) (by omega)) rfl;dsimp only [aE,aF];apply vn (aH bG (m:=kn.length-1-d) (by omega) (by omega) (aI (show kn.length-1-d<kn.length by omega))) rfl;apply vn (aR cF (by decide) (by simp) (.inl rfl)) rfl;exact aL rfl
theorem ae7 (kn:List Rat) (d i:Nat) (hs:kn.length<1099511627776:=by omega) (hd:d+1<=kn.length:=by omega) (hi:i<kn.length-d-1:=by omega):aQ prog 106 [(.agg [sQ kn, .int .i64 (d:Int)]:aJ),(.one (.int .i64 (i:Int)):aJ)] (.ret [.one (sQ ((List.replicate (kn.length-d-1) 0).set i ((1:Int):Rat)))]):=by
 refine eH func106 ah6 ?_;apply aA (pV kn d hs) rfl;rw [show (kn.length:Int)-(d:Int)-1=((kn.length-d-1:Nat):Int) by omega];refine xG (n:=kn.length-d-1) (m:=kn.length-d-1) (us:=List.replicate (kn.length-d-1) z3) rfl rfl rfl (aY _) (by omega) (by simp only [maxLen];omega) ?_;apply aA (dE 1) rfl;refine qP rfl rfl (by omega) (by rw [List.length_replicate];omega) ?_;refine QK (ts:=List.replicate (kn.length-d-1) z3) (us:=(List.replicate (kn.length-d-1) z3).set i (qC ((1:Int):Rat))) rfl rfl (by omega) (cells:=z3) (by rw [Int.toNat_natCast,List.getElem?_replicate,if_pos (by omega)]) (by rw [Int.toNat_natCast];rfl) ?_;dsimp only [aE,aF];refine jL ⟨am1 ?_,trivial⟩;rw [rQ,List.map_set,List.map_replicate];exact Dj ⟨aD.Sub.same,aD.Sub.same,aD.Sub.same,trivial⟩ i (Ed jV _)
def tZ (kn:List Rat) (i:Nat):Nat->Nat->List Rat
 | 0,j=>if j=i then [((1:Int):Rat)] else []
 | e+1,j=>if i<j\/j+(e+1)<i then [] else
   iM (eF (jJ [-(kn.getD j 0),((1:Int):Rat)] (kn.getD (j+(e+1)) 0-kn.getD j 0)) (tZ kn i e j)) (eF (jJ [kn.getD (j+(e+1)+1) 0,((-1:Int):Rat)] (kn.getD (j+(e+1)+1) 0-kn.getD (j+1) 0)) (tZ kn i e (j+1)))
def vZ (A:Nat):Nat->Nat
 | 0=>62
 | e+1=>2*((3*A+130)*3+vZ A e*(e+2)+7)+1
theorem mB {p:List Rat} {q:Rat}:(jJ p q).length<=p.length:=by
 unfold jJ;split
 .exact dD _
 .exact Nat.le_trans (fN _) (by rw [aK,mV];exact aY _)
theorem Oi {A B:Nat} {p:List Rat} {q:Rat} (hA:1<=A) (hp:∀ a∈p,Fit A a) (hq:Fit B q):∀ a∈jJ p q,Fit (A+(62+B)) a:=by
 intro a ha;unfold jJ at ha;split at ha
 .cases ha
 .have h:=oO ha;obtain ⟨i,_,rfl⟩:=eM.1 h;exact (aC hp i hA).mul ((Fit.int (n:=1) (B:=62) (by omega) (by omega)).div hq)
theorem lZ (kn:List Rat) (i:Nat):∀ e j,(tZ kn i e j).length<=e+1
 | 0,j=>by unfold tZ;split<;>simp
 | e+1,j=>by
   unfold tZ;split
   .exact dD _
   .have h1:=kD (jJ [-(kn.getD j 0),((1:Int):Rat)] (kn.getD (j+(e+1)) 0-kn.getD j 0)) (tZ kn i e j);have h2:=kD (jJ [kn.getD (j+(e+1)+1) 0,((-1:Int):Rat)] (kn.getD (j+(e+1)+1) 0-kn.getD (j+1) 0)) (tZ kn i e (j+1));have h3:=lZ kn i e j;have h4:=lZ kn i e (j+1);have h5:=mB (p:=[-(kn.getD j 0),((1:Int):Rat)]) (q:=kn.getD (j+(e+1)) 0-kn.getD j 0);have h6:=mB (p:=[kn.getD (j+(e+1)+1) 0,((-1:Int):Rat)]) (q:=kn.getD (j+(e+1)+1) 0-kn.getD (j+1) 0);simp only [List.length_cons,List.length_nil] at h5 h6;exact Nat.le_trans (EP _ _) (by omega)
theorem yA {A:Nat} {a b:Rat} (ha:Fit A a) (hb:Fit 62 b):∀ x ∈ [a,b],Fit (A+62) x:=fun x hx=>by
 rcases List.mem_cons.1 hx with rfl | hx
 .exact ha.mono (by omega)
 .rw [List.mem_singleton.1 hx];exact hb.mono (by omega)
section
variable {A:Nat} {kn:List Rat} (hA1:1<=A) (hk:∀ a∈kn,Fit A a)
include hA1 hk
theorem Xs (e j:Nat):∀ a∈jJ [-(kn.getD j 0),((1:Int):Rat)] (kn.getD (j+(e+1)) 0-kn.getD j 0),Fit (3*A+130) a:=fun a ha=>
 (Oi (by omega) (yA (aC hk j hA1).neg (Fit.int (by omega) (by omega))) ((aC hk _ hA1).sub (aC hk _ hA1)) a ha).mono (by omega)
theorem WS (e j:Nat):∀ a∈jJ [kn.getD (j+(e+1)+1) 0,((-1:Int):Rat)] (kn.getD (j+(e+1)+1) 0-kn.getD (j+1) 0),Fit (3*A+130) a:=fun a ha=>
 (Oi (by omega) (yA (aC hk _ hA1) (Fit.int (by omega) (by omega))) ((aC hk _ hA1).sub (aC hk _ hA1)) a ha).mono (by omega)
theorem lW (i:Nat):∀ e j,∀ a∈tZ kn i e j,Fit (vZ A e) a
 | 0,j=>by
   intro a ha;unfold tZ at ha;split at ha
   .rw [List.mem_singleton.1 ha];exact (Fit.int (n:=1) (B:=62) (by omega) (by omega):Fit 62 _)
   .cases ha
 | e+1,j=>by
   intro a ha;unfold tZ at ha;split at ha
   .cases ha
   .have h3:=lZ kn i e j;have h4:=lZ kn i e (j+1);have h5:=mB (p:=[-(kn.getD j 0),((1:Int):Rat)]) (q:=kn.getD (j+(e+1)) 0-kn.getD j 0);have h6:=mB (p:=[kn.getD (j+(e+1)+1) 0,((-1:Int):Rat)]) (q:=kn.getD (j+(e+1)+1) 0-kn.getD (j+1) 0);simp only [List.length_cons,List.length_nil] at h5 h6
    have m1:∀ a∈eF (jJ [-(kn.getD j 0),((1:Int):Rat)] (kn.getD (j+(e+1)) 0-kn.getD j 0)) (tZ kn i e j),Fit ((3*A+130)*3+vZ A e*(e+2)+7) a:=fun a ha=>(jY (Xs hA1 hk e j) (lW i e j) (by omega) a ha).mono (by
     have:=Nat.mul_le_mul_left (3*A+130) (show (jJ [-(kn.getD j 0),((1:Int):Rat)] (kn.getD (j+(e+1)) 0-kn.getD j 0)).length+1<=3 by omega);have:=Nat.mul_le_mul_left (vZ A e) (show (tZ kn i e j).length+1<=e+2 by omega);omega)
    have m2:∀ a∈eF (jJ [kn.getD (j+(e+1)+1) 0,((-1:Int):Rat)] (kn.getD (j+(e+1)+1) 0-kn.getD (j+1) 0)) (tZ kn i e (j+1)),Fit ((3*A+130)*3+vZ A e*(e+2)+7) a:=fun a ha=>(jY (WS hA1 hk e j) (lW i e (j+1)) (by omega) a ha).mono (by
     have:=Nat.mul_le_mul_left (3*A+130) (show (jJ [kn.getD (j+(e+1)+1) 0,((-1:Int):Rat)] (kn.getD (j+(e+1)+1) 0-kn.getD (j+1) 0)).length+1<=3 by omega);have:=Nat.mul_le_mul_left (vZ A e) (show (tZ kn i e (j+1)).length+1<=e+2 by omega);omega)
    exact (Cy (by omega) (by omega) m1 m2 a ha).mono (by rw [vZ];omega)
end
theorem NY (kn:List Rat) (d i j e A:Nat) (hA1:1<=A) (hk:∀ a∈kn,Fit A a) (hs:kn.length<1000000000) (hA:vZ A e<=1000000000) (hij:i<1000000000) (he:e<=60) (hj:e=0\/j+e+1<kn.length) (hj2:j<1000000000) (ih:∀ e' j',e=e'+1->j'=j\/j'=j+1->aQ prog 188 [.agg [sQ kn, .int .i64 (d:Int), .int .i64 (i:Int)], .one (.int .i64 (j':Int)), .one (.int .i64 (e':Int))] (.ret [.one (sQ (tZ kn i e' j'))])):aQ prog 188 [(.agg [sQ kn, .int .i64 (d:Int), .int .i64 (i:Int)]:aJ),(.one (.int .i64 (j:Int)):aJ),(.one (.int .i64 (e:Int)):aJ)] (.ret [.one (sQ (tZ kn i e j))]):=by
 refine eH func188 Yd ?_;apply vn dP rfl;refine vs _ rfl ?_ ?_<;>intro h1
 .obtain rfl:e=0:=by omega
  apply vn dP rfl;refine vs _ rfl ?_ ?_<;>intro h3
  .apply aA (dE 1) rfl;apply eK (us:=[qC ((1:Int):Rat)]) rfl;dsimp only [aE,aF];rw [show tZ kn i 0 j = [((1:Int):Rat)] by rw [tZ,if_pos (by omega)]];exact aL rfl
  rw [show tZ kn i 0 j = [] by rw [tZ,if_neg (by omega)]];exact jL ⟨aD.Sub.nil,trivial⟩
 obtain ⟨e,rfl⟩:∃ e',e=e'+1:=⟨e-1,by omega⟩
 have hb1:=Xs hA1 hk e j;have hb2:=WS hA1 hk e j;have hl3:=lZ kn i e j;have hl4:=lZ kn i e (j+1);have hl5:=mB (p:=[-(kn.getD j 0),((1:Int):Rat)]) (q:=kn.getD (j+(e+1)) 0-kn.getD j 0);have hl6:=mB (p:=[kn.getD (j+(e+1)+1) 0,((-1:Int):Rat)]) (q:=kn.getD (j+(e+1)+1) 0-kn.getD (j+1) 0);simp only [List.length_cons,List.length_nil] at hl5 hl6;have hx:=hA;rw [vZ] at hx;have hq1:=Nat.mul_le_mul_left (3*A+130) (show (jJ [-(kn.getD j 0),((1:Int):Rat)] (kn.getD (j+(e+1)) 0-kn.getD j 0)).length+1<=3 by omega);have hq2:=Nat.mul_le_mul_left (vZ A e) (show (tZ kn i e j).length+1<=e+2 by omega);have hq3:=Nat.mul_le_mul_left (3*A+130) (show (jJ [kn.getD (j+(e+1)+1) 0,((-1:Int):Rat)] (kn.getD (j+(e+1)+1) 0-kn.getD (j+1) 0)).length+1<=3 by omega);have hq4:=Nat.mul_le_mul_left (vZ A e) (show (tZ kn i e (j+1)).length+1<=e+2 by omega);apply vn bQ rfl;refine vs _ rfl ?_ ?_<;>intro h9
 .rw [show tZ kn i (e+1) j = [] by rw [tZ,if_pos (by omega)]];exact jL ⟨aD.Sub.nil,trivial⟩
 apply vn (aB (by omega) (by omega)) rfl;apply vn gH rfl;refine vs _ rfl ?_ ?_<;>intro h13
 .rw [show tZ kn i (e+1) j = [] by rw [tZ,if_pos (by omega)]];exact jL ⟨aD.Sub.nil,trivial⟩
 apply vn (aH bG (m:=j) (by omega) (Int.toNat_natCast j) (aI (show j<kn.length by omega))) rfl;dsimp only [aE,aF];apply vn (aR cF (by decide) (by simp) (.inl rfl)) rfl;apply aA (Fj _) rfl;apply aA (dE 1) rfl;apply eK (us:=rQ [-(kn.getD j 0),((1:Int):Rat)]) rfl;dsimp only [aE,aF];apply vn (aB (by omega) (by omega)) rfl;dsimp only [aE,aF];apply vn (aH bG (m:=j+(e+1)) (by omega) (by omega) (aI (show j+(e+1)<kn.length by omega))) rfl;apply vn (aR cF (by decide) (by simp) (.inl rfl)) rfl;dsimp only [aE,aF];apply vn (aH bG (m:=j) (by omega) (Int.toNat_natCast j) (aI (show j<kn.length by omega))) rfl;apply vn (aR cF (by decide) (by simp) (.inl rfl)) rfl;apply aA (jF _ _ A A (aC hk _ hA1) (aC hk _ hA1)) rfl;apply aA (XB _ _ (A+62) (A+A+1) (by simp) (yA (aC hk j hA1).neg (Fit.int (by omega) (by omega))) ((aC hk _ hA1).sub (aC hk _ hA1))) rfl;dsimp only [aE,aF];apply vn (aG (by omega) (by omega)) rfl;dsimp only [aE,aF];rw [show ((e+1:Nat):Int)-1=(e:Int) by omega];apply aA (ih e j rfl (.inl rfl)) rfl;apply aA (BO _ _ (3*A+130) (vZ A e) hb1 (lW hA1 hk i e j)) rfl;apply vn (aB (by omega) (by omega)) rfl;apply vn (aB (by omega) (by omega)) rfl;dsimp only [aE,aF];apply vn (aH bG (m:=j+(e+1)+1) (by omega) (by omega) (aI (show j+(e+1)+1<kn.length by omega))) rfl;apply vn (aR cF (by decide) (by simp) (.inl rfl)) rfl;apply aA (dE (-1)) rfl;apply eK (us:=rQ [kn.getD (j+(e+1)+1) 0,((-1:Int):Rat)]) rfl;dsimp only [aE,aF];apply vn (aB (by omega) (by omega)) rfl;apply vn (aB (by omega) (by omega)) rfl;dsimp only [aE,aF];apply vn (aH bG (m:=j+(e+1)+1) (by omega) (by omega) (aI (show j+(e+1)+1<kn.length by omega))) rfl;apply vn (aR cF (by decide) (by simp) (.inl rfl)) rfl;apply vn (aB (by omega) (by omega)) rfl;dsimp only [aE,aF];apply vn (aH bG (m:=j+1) (by omega) (by omega) (aI (show j+1<kn.length by omega))) rfl;apply vn (aR cF (by decide) (by simp) (.inl rfl)) rfl;apply aA (jF _ _ A A (aC hk _ hA1) (aC hk _ hA1)) rfl;apply aA (XB _ _ (A+62) (A+A+1) (by simp) (yA (aC hk _ hA1) (Fit.int (by omega) (by omega))) ((aC hk _ hA1).sub (aC hk _ hA1))) rfl;dsimp only [aE,aF];apply vn (aB (by omega) (by omega)) rfl;dsimp only [aE,aF];rw [show ((j:Int)+1)=((j+1:Nat):Int) by omega];apply vn (aG (by omega) (by omega)) rfl;dsimp only [aE,aF];rw [show ((e+1:Nat):Int)-1=(e:Int) by omega];apply aA (ih e (j+1) rfl (.inr rfl)) rfl;apply aA (BO _ _ (3*A+130) (vZ A e) hb2 (lW hA1 hk i e (j+1))) rfl;dsimp only [aE,aF];apply aA (Fi _ _ _ _ (fun a ha=>(jY hb1 (lW hA1 hk i e j) (by omega) a ha).mono (by omega)) (fun a ha=>(jY hb2 (lW hA1 hk i e (j+1)) (by omega) a ha).mono (by omega)) (Nat.lt_of_le_of_lt (kD _ _) (by omega)) (show 1<=(3*A+130)*3+vZ A e*(e+2)+7 by omega) (Nat.lt_of_le_of_lt (kD _ _) (by omega)) (show 1<=(3*A+130)*3+vZ A e*(e+2)+7 by omega)) rfl;dsimp only [aE,aF];rw [show tZ kn i (e+1) j=_ by rw [tZ,if_neg (by omega)]];exact aL rfl
theorem CC (kn:List Rat) (d i A:Nat) (hA1:1<=A) (hk:∀ a∈kn,Fit A a) (hs:kn.length<1000000000) (hij:i<1000000000):∀ (e j:Nat),vZ A e<=1000000000->e<=60->(e=0\/j+e+1<kn.length)->j<999999900-e->aQ prog 188 [.agg [sQ kn, .int .i64 (d:Int), .int .i64 (i:Int)], .one (.int .i64 (j:Int)), .one (.int .i64 (e:Int))] (.ret [.one (sQ (tZ kn i e j))])
 | 0,j,hA,he,hj,hj2=>NY kn d i j 0 A hA1 hk hs hA hij he hj (by omega) fun e' j' h=>by omega
 | e+1,j,hA,he,hj,hj2=>NY kn d i j (e+1) A hA1 hk hs hA hij he hj (by omega) fun e' j' h hj'=>by
   obtain rfl:e'=e:=by omega
   have hx:=hA;rw [vZ] at hx;have h9:=Nat.le_mul_of_pos_right (vZ A e') (show 0<e'+2 by omega);exact CC kn d i A hA1 hk hs hij e' j' (by omega) (by omega) (by omega) (by omega)
open Go Go.Proofs Tryz Ord
def aG0:Tr:=aZ 188 [(.agg [(U 0 0),(U 0 1),(U 2 0)]),(W 19 0),(W 0 1)] [none] [55,56,59] [228,3,3] 98 false (eW 1 0 19 0 28 61 62 (eI 25 0 (some 3) 46 63 (aZ 125 [(W 24 0),(G3 26)] [none] [60,64] [98,46] 98 true (aZ 66 [(W 18 0),(W 27 0)] [none] [54,65] [98,98] 98 true (bI .add 3 52 1 19 0 3 (.back 1 [lV 28 0,lV 29 0]))))))
def ay7:Tr:=eI 24 0 (some 3) 46 72 (.need (.lit 3 [[(.u 25 0),(.u 25 1),(.u 25 2)]]) (.buildSlice 28 1 #[(0,(tT 73))]) 28 false (.need (.app 3 56 (some 3) none (some 26)) (.call ⟨.builtin .append,#[(tT 68),(tT 74)],#[28,28]⟩) 28 false (.need (.lit 1 [[(.u 18 0)]]) (.buildSlice 29 1 #[(0,(tT 78))]) 29 false (.need (.app 1 24 (some 4) none (some 28)) (.call ⟨.builtin .append,#[(tT 77),(tT 79)],#[29,29]⟩) 29 false (bI .add 3 21 1 2 0 3 (.back 0 [lV 30 0, .row 27, .row 29]))))))
def aC3:Tr:=.loop 1 [lN,lV 17 0] (aZ 104 [(G2 0)] [none] [47] [157] 3 false (bI .sub 3 48 1 20 0 3 (.need (.prim [(W 2 0),(W 21 0)] none) (.call ⟨.builtin .min,#[(tT 45),(tT 49)],#[3,3]⟩) 3 false (cU .leq 3 44 50 19 0 22 0 4 (.split (.u 23 0) aG0 (eW 0 0 2 0 28 70 71 ay7))))))
def bf6:Tr:=eW 0 0 11 0 28 29 31 (eI 12 0 (some 3) 46 32 (aZ 67 [(G3 10),(G3 13)] [none] [27,33] [46,46] 3 true (bI .eql 3 34 0 14 0 4 (.split (.u 15 0) (bI .add 3 21 1 2 0 3 (.back 0 [lV 16 0, .row 3, .row 4])) (cU .sub 3 39 41 2 0 0 1 3 (.need (.prim [(W 16 0),(WK 0)] none) (.call ⟨.builtin .max,#[(tT 42),(.const (I3 0))],#[3,3]⟩) 3 false aC3))))))
def bh2:Tr:=cU .sub 3 16 18 6 0 0 1 3 (cU .lss 3 12 19 2 0 7 0 4 (.split (.u 8 0) (eW 0 0 2 0 28 24 25 (eI 9 0 (some 3) 46 26 (bI .add 3 30 1 2 0 3 bf6))) (aZ 108 [(G2 0)] [(some 3)] [85] [157] 46 true (.need (.lit 3 [[(.u 9 0),(.u 9 1),(.u 9 2)]]) (.buildSlice 28 1 #[(0,(tT 86))]) 28 false (.need (.app 3 56 (some 3) none (some 10)) (.call ⟨.builtin .append,#[(tT 84),(tT 87)],#[28,28]⟩) 28 false (.ret [(.agg [(.c (.sr 3 11)),(.c (.sr 1 4))])]))))))
def bi9:Tr:=.loop 0 [lV 0 1, .nilrow, .nilrow] (dS 0 0 14 28 (bI .sub 3 15 1 5 0 3 bh2))
theorem Wj:aV prog f105 (fun _=>none) [.v (some 2), .v none]=bi9:=by kernel_rfl
theorem Qo {A B:Nat} {p:List Rat} {k:Rat} (hA:1<=A) (hp:∀ a∈p,Fit A a) (hk:Fit B k):∀ a∈wF p k,Fit (A+B) a:=by
 intro a ha;obtain ⟨i,_,rfl⟩:=eM.1 (oO ha);exact (aC hp i hA).mul hk
theorem PO (p:List Rat) (k:Rat):(wF p k).length<=p.length:=Nat.le_trans (fN _) (by rw [aK,mV];exact aY _)
def RO (kn:List Rat) (d:Nat) (cf:List Rat) (i lo n:Nat):List Rat:=(List.range n).foldl (fun acc t=>iM acc (wF (tZ kn i d (lo+t)) (cf.getD (lo+t) 0))) []
theorem Ab (kn:List Rat) (d:Nat) (cf:List Rat) (i lo n:Nat):RO kn d cf i lo (n+1)=iM (RO kn d cf i lo n) (wF (tZ kn i d (lo+n)) (cf.getD (lo+n) 0)):=by
 rw [RO,List.range_succ,List.foldl_append];rfl
theorem Ta (kn:List Rat) (d:Nat) (cf:List Rat) (i lo:Nat):∀ n,(RO kn d cf i lo n).length<=d+1
 | 0=>dD _
 | n+1=>by
   rw [Ab];have h1:=Ta kn d cf i lo n;have h2:=PO (tZ kn i d (lo+n)) (cf.getD (lo+n) 0);have h3:=lZ kn i d (lo+n);exact Nat.le_trans (EP _ _) (by omega)
theorem TZ {A:Nat} {kn cf:List Rat} (hA1:1<=A) (hk:∀ a∈kn,Fit A a) (hc:∀ a∈cf,Fit A a) (d i lo:Nat) (hb:1<=vZ A d):∀ n,∀ a∈RO kn d cf i lo n,Fit (1+n*(vZ A d+A+1)) a
 | 0=>fun a ha=>by cases ha
 | n+1=>fun a ha=>by
   rw [Ab] at ha;exact (Cy (by omega) (by omega) (TZ hA1 hk hc d i lo hb n) (Qo hb (lW hA1 hk i d (lo+n)) (aC hc (lo+n) hA1)) a ha).mono (by rw [Nat.add_mul];omega)
def zS (kn:List Rat) (d:Nat) (cf:List Rat) (i:Nat):List Rat:=RO kn d cf i (i-d) (min i (kn.length-d-1-1)+1-(i-d))
def yP (kn:List Rat) (d i:Nat):List Nat:=(List.range i).filter fun t=>decide (d<=t/\kn.getD t 0≠kn.getD (t+1) 0)
theorem aq0 {kn:List Rat} {d i:Nat} (h:¬ (d<=i/\kn.getD i 0≠kn.getD (i+1) 0)):yP kn d (i+1)=yP kn d i:=by
 rw [yP,List.range_succ,List.filter_append,List.filter_cons_of_neg (by simpa using h)];simp [yP]
theorem RT {kn:List Rat} {d i:Nat} (h:d<=i/\kn.getD i 0≠kn.getD (i+1) 0):yP kn d (i+1)=yP kn d i ++ [i]:=by
 rw [yP,List.range_succ,List.filter_append,List.filter_cons_of_pos (by simpa using h)];simp [yP]
theorem ax6 (kn:List Rat) (d i:Nat):(yP kn d i).length<=i:=by
 have:=List.length_filter_le (fun t=>decide (d<=t/\kn.getD t 0≠kn.getD (t+1) 0)) (List.range i);rw [mV] at this;exact this
theorem ad2 (kn:List Rat) (d:Nat):yP kn d d = []:=by
 rw [yP,List.filter_eq_nil_iff];intro t ht;have:=List.mem_range.1 ht;simp;omega
theorem aJ2 (A:Nat):∀ e,1<=vZ A e
 | 0=>by simp [vZ]
 | e+1=>by rw [vZ];omega
theorem zY {a b:Rat}:gG a b=0↔a=b:=by
 unfold gG;split
 .rename_i h;constructor
  .intro h';cases h'
  .rintro rfl;exact absurd h (Rat.lt_irrefl)
 .split
  .rename_i h1 h;constructor
   .intro h';cases h'
   .rintro rfl;exact absurd h (Rat.lt_irrefl)
  .rename_i h1 h2;exact ⟨fun _=>Rat.le_antisymm (Rat.not_lt.1 h2) (Rat.not_lt.1 h1),fun _=>rfl⟩
theorem UI (kn cf:List Rat) (d A:Nat) (hk:∀ a∈kn,Fit A a) (hc:∀ a∈cf,Fit A a) (hcl:cf.length=kn.length-d-1) (hA:vZ A d+A<=10000) (hA1:1<=A:=by omega) (hs:kn.length<1000000:=by omega) (hd:d<=60:=by omega) (h2:2*d+2<=kn.length:=by omega):aQ prog 105 [(.agg [sQ kn, .int .i64 (d:Int)]:aJ),(.one (sQ cf):aJ)] (.ret [.agg [sQ ((yP kn d (kn.length-1-d)).map (fun t=>kn.getD t 0) ++ [kn.getD (kn.length-1-d) 0]),eQ ((yP kn d (kn.length-1-d)).map (zS kn d cf))]]):=by
 refine eH func105 Wj ?_;have hb1:=aJ2 A d;refine bZ {i:Nat // d<=i/\i<=kn.length-1-d} (fun g=>[.one (.int .i64 (g.1:Int)), .rows (rQ ((yP kn d g.1).map fun t=>kn.getD t 0)), .rows (((yP kn d g.1).map (zS kn d cf)).map cQ)]) (fun g=>kn.length-g.1) ⟨d,aY _,by omega⟩ (by dsimp only;rw [ad2];exact aX.rfl) (fun _=>rfl) ?_;rintro ⟨i,hdi,hi⟩;dsimp only [aE,aF] at hdi hi ⊢;have hnl:=ax6 kn d i;have hm1:((yP kn d i).map fun t=>kn.getD t 0).length<=i:=by rw [aK];exact hnl
 have hm2:((yP kn d i).map (zS kn d cf)).length<=i:=by rw [aK];exact hnl
 apply vn (aM bG (aK _)) rfl;apply vn (aG (by omega) (by omega)) rfl;apply vn (aG (by omega) (by omega)) rfl;apply vn bQ rfl;dsimp only [aE,aF];refine vs _ rfl ?_ ?_<;>intro h5
 .apply vn (aH bG (m:=i) (by omega) (Int.toNat_natCast i) (aI (show i<kn.length by omega))) rfl;apply vn (aR cF (by decide) (by simp) (.inl rfl)) rfl;apply vn (aB (by omega) (by omega)) rfl;dsimp only [aE,aF];apply vn (aH bG (m:=i+1) (by omega) (by omega) (aI (show i+1<kn.length by omega))) rfl;apply vn (aR cF (by decide) (by simp) (.inl rfl)) rfl;apply aA (kL _ _ A A (aC hk _ hA1) (aC hk _ hA1)) rfl;apply vn dP rfl;dsimp only [aE,aF];refine vs _ rfl ?_ ?_<;>intro h13
  .have heq:=zY.1 ‹_›;apply vn (aB (by omega) (by omega)) rfl;dsimp only [aE,aF];rw [<-aq0 (kn:=kn) (d:=d) (i:=i) (by rintro ⟨_,h⟩;exact h heq)];exact bD rfl ⟨⟨i+1,by omega,by omega⟩,aX.rfl,by show kn.length-(i+1)<kn.length-i;omega⟩
  have hne:kn.getD i 0≠kn.getD (i+1) 0:=fun h=>‹¬ _› (zY.2 h);apply vn (aG (by omega) (by omega)) rfl;apply vn aq4 rfl;dsimp only [aE,aF];rw [show max ((i:Int)-(d:Int)) 0=((i-d:Nat):Int) by omega];refine bZ {n:Nat // n<=min i (kn.length-d-1-1)+1-(i-d)} (fun g=>[.one (sQ (RO kn d cf i (i-d) g.1)), .one (.int .i64 ((i-d+g.1:Nat):Int))]) (fun g=>min i (kn.length-d-1-1)+1-(i-d)-g.1) ⟨0,dD _⟩ ⟨aD.Sub.nil, .inl rfl,trivial⟩ (fun _=>rfl) ?_;rintro ⟨n,hn⟩;dsimp only [aE,aF] at hn ⊢;have hcf:=TZ hA1 hk hc d i (i-d) hb1 n;have hcn:=Ta kn d cf i (i-d) n;have hnb:n*(vZ A d+A+1)<=100*(vZ A d+A+1):=Nat.mul_le_mul_right _ (by omega);apply aA (pV kn d) rfl;apply vn (aG (by omega) (by omega)) rfl;apply vn aN5 rfl;apply vn nX rfl;dsimp only [aE,aF];refine vs _ rfl ?_ ?_<;>intro h23
  .have hlt:i-d+n<cf.length:=by omega
   apply aA (CC kn d i A hA1 hk (by omega) (by omega) d (i-d+n) (by omega) (by omega) (by omega) (by omega)) rfl;apply vn (aH bG (m:=i-d+n) (by omega) (Int.toNat_natCast _) (aI hlt)) rfl;apply vn (aR cF (by decide) (by simp) (.inl rfl)) rfl;apply aA (ED _ _ (vZ A d) A hb1 (lW hA1 hk i d _) (aC hc _ hA1) (Nat.lt_of_le_of_lt (lZ _ _ _ _) (by omega))) rfl;dsimp only [aE,aF];apply aA (Fi _ _ (1+n*(vZ A d+A+1)) (vZ A d+A) hcf (Qo hb1 (lW hA1 hk i d _) (aC hc _ hA1)) (Nat.lt_of_le_of_lt (Nat.le_trans (PO _ _) (lZ _ _ _ _)) (by omega))) rfl;rw [<-Ab];apply vn (aB (by omega) (by omega)) rfl;dsimp only [aE,aF];exact bD rfl ⟨⟨n+1,by omega⟩,⟨.inl rfl, .inl (by rw [show ((i-d+(n+1):Nat):Int)=((i-d+n:Nat):Int)+1 by omega];rfl),trivial⟩,by show min i (kn.length-d-1-1)+1-(i-d)-(n+1)<min i (kn.length-d-1-1)+1-(i-d)-n;omega⟩
  rw [show RO kn d cf i (i-d) n=zS kn d cf i by rw [zS,show n=min i (kn.length-d-1-1)+1-(i-d) by omega]];apply vn (aH bG (m:=i) (by omega) (Int.toNat_natCast i) (aI (show i<kn.length by omega))) rfl;apply vn (aR cF (by decide) (by simp) (.inl rfl)) rfl;apply eK (us:=[qC (kn.getD i 0)]) rfl;refine kX (xs:=(yP kn d i).map fun t=>kn.getD t 0) (x:=kn.getD i 0) (f:=qC) rfl rfl (by omega) (by simp only [maxLen];omega) ?_;dsimp only [aE,aF];apply eK (us:=[cQ (zS kn d cf i)]) rfl;refine kX (xs:=(yP kn d i).map (zS kn d cf)) (x:=zS kn d cf i) (f:=cQ) rfl rfl (by omega) (by simp only [maxLen];omega) ?_;rw [show (yP kn d i).map (fun t=>kn.getD t 0) ++ [kn.getD i 0]=(yP kn d (i+1)).map fun t=>kn.getD t 0 by rw [RT ⟨hdi,hne⟩,List.map_append];rfl,show (yP kn d i).map (zS kn d cf) ++ [zS kn d cf i]=(yP kn d (i+1)).map (zS kn d cf) by rw [RT ⟨hdi,hne⟩,List.map_append];rfl];apply vn (aB (by omega) (by omega)) rfl;dsimp only [aE,aF];exact bD rfl ⟨⟨i+1,by omega,by omega⟩,aX.rfl,by show kn.length-(i+1)<kn.length-i;omega⟩
 obtain rfl:i=kn.length-1-d:=by omega
 apply aA (Wu kn d) rfl;apply eK (us:=[qC (kn.getD (kn.length-1-d) 0)]) rfl;refine kX (xs:=(yP kn d (kn.length-1-d)).map fun t=>kn.getD t 0) (x:=kn.getD (kn.length-1-d) 0) (f:=qC) rfl rfl (by omega) (by simp only [maxLen];omega) ?_;exact aL rfl
open Go Go.Proofs Tryz Ord
def an1:Tr:=.ret [(.agg [tN,tN]),(WK 2)]
def al6:Tr:=.ret [(.agg [tN,tN]),(WK 3)]
def aT0:Tr:=.split (.u 6 0) al6 (aZ 104 [(G2 3)] [none] [25] [157] 3 false (cU .geq 3 24 26 2 0 7 0 4 (.split (.u 8 0) al6 (aZ 106 [(G2 3),(W 2 0)] [none] [31,32] [157,3] 28 true (aZ 105 [(G2 3),(W 9 0)] [(some 2)] [30,33] [157,28] 31 true (.ret [(G2 10),(WK 0)]))))))
def bj7:Tr:=aZ 103 [(W 0 0),(W 1 0)] [(some 2),none] [11,12] [28,3] 158 false (.need (.prim [(W 4 0)] none) (.unOp .not 4 (tT 17)) 4 false (.split (.u 5 0) an1 (bI .lss 3 21 0 2 0 4 aT0)))
theorem an5:aV prog f34 (fun _=>none) [.v none, .v none, .v none]=bj7:=by kernel_rfl
structure Fra (kn:List Rat) (d:Nat):Prop where
 hs:kn.length<=60
 hd:d<=5
 h2:2*d+2<=kn.length
 hr:kE false kn=true
 hm:∀ j,d+1<=j->j<kn.length->kn.getD j 0≠kn.getD (j-d-1) 0
 hf:gG (kn.getD d 0) (kn.getD (d+1) 0)<0
 hl:gG (kn.getD (kn.length-1-d-1) 0) (kn.getD (kn.length-1-d) 0)<0
theorem NT (kn:List Rat) (d A:Nat) (hk:∀ a∈kn,Fit A a) (F:Fra kn d) (hA1:1<=A:=by omega) (hA:A<=1073741824:=by omega):aQ prog 103 [(.one (sQ kn):aJ),(.one (.int .i64 (d:Int)):aJ)] (.ret [.agg [sQ kn, .int .i64 (d:Int)], .one (.bool true)]):=by
 refine eH func103 YZ ?_;have hs:=F.hs;have hd:=F.hd;have h2:=F.h2;apply vn bQ rfl;refine vs _ rfl ?_ ?_<;>intro h1
 .exfalso;omega
 apply vn gH rfl;refine vs _ rfl ?_ ?_<;>intro h4
 .exfalso;omega
 apply vn (aM bG (aK _)) rfl;apply vn (Af) rfl;dsimp only [aE,aF];apply vn (aB (by omega) (by omega)) rfl;apply vn bQ rfl;refine vs _ rfl ?_ ?_<;>intro h10
 .exfalso;omega
 apply vn (aM bG (aK _)) rfl;apply vn gH rfl;dsimp only [aE,aF];refine vs _ rfl ?_ ?_<;>intro h14
 .exfalso;omega
 apply aA (vQ kn false A hk hA1 hA) rfl;rw [F.hr];apply vn gX rfl;refine pY false rfl (fun h=>by cases h) (fun _=>?_);apply vn (aB (by omega) (by omega)) rfl;refine bZ {j:Nat // d+1<=j/\j<=kn.length} (fun g=>[.one (.bool false), .one (.int .i64 (g.1:Int)), .one (.exact (.slice none 0 0)), .one (.int .i64 0)]) (fun g=>kn.length-g.1) ⟨d+1,aY _,by omega⟩ aX.rfl (fun _=>rfl) ?_;rintro ⟨j,hj1,hj2⟩;dsimp only [aE,aF] at hj1 hj2 ⊢;apply vn (aM bG (aK _)) rfl;apply vn bQ rfl;refine vs _ rfl ?_ ?_<;>intro h24
 .apply vn (aH bG (m:=j) (by omega) (Int.toNat_natCast j) (aI (show j<kn.length by omega))) rfl;apply vn (aR cF (by decide) (by simp) (.inl rfl)) rfl;dsimp only [aE,aF];apply vn (aG (by omega) (by omega)) rfl;apply vn (aG (by omega) (by omega)) rfl;dsimp only [aE,aF];apply vn (aH bG (m:=j-d-1) (by omega) (by omega) (aI (show j-d-1<kn.length by omega))) rfl;apply vn (aR cF (by decide) (by simp) (.inl rfl)) rfl;apply aA (kL _ _ A A (aC hk _ hA1) (aC hk _ hA1)) rfl;apply vn dP rfl;dsimp only [aE,aF];refine vs _ rfl ?_ ?_<;>intro h33
  .exact absurd (zY.1 ‹_›) (F.hm j hj1 (by omega))
  apply vn (aB (by omega) (by omega)) rfl;dsimp only [aE,aF];exact bD rfl ⟨⟨j+1,by omega,by omega⟩,aX.rfl,by show kn.length-(j+1)<kn.length-j;omega⟩
 apply vn (aM bG (aK _)) rfl;apply vn (aG (by omega) (by omega)) rfl;apply vn (aG (by omega) (by omega)) rfl;dsimp only [aE,aF];apply vn (aH bG (m:=d) (by omega) (Int.toNat_natCast d) (aI (show d<kn.length by omega))) rfl;apply vn (aR cF (by decide) (by simp) (.inl rfl)) rfl;apply vn (aB (by omega) (by omega)) rfl;dsimp only [aE,aF];apply vn (aH bG (m:=d+1) (by omega) (by omega) (aI (show d+1<kn.length by omega))) rfl;apply vn (aR cF (by decide) (by simp) (.inl rfl)) rfl;apply aA (kL _ _ A A (aC hk _ hA1) (aC hk _ hA1)) rfl;apply vn bQ rfl;dsimp only [aE,aF];refine vs _ rfl ?_ ?_<;>intro h47
 .apply vn (aG (by omega) (by omega)) rfl;dsimp only [aE,aF];apply vn (aH bG (m:=kn.length-1-d-1) (by omega) (by omega) (aI (show kn.length-1-d-1<kn.length by omega))) rfl;apply vn (aR cF (by decide) (by simp) (.inl rfl)) rfl;dsimp only [aE,aF];apply vn (aH bG (m:=kn.length-1-d) (by omega) (by omega) (aI (show kn.length-1-d<kn.length by omega))) rfl;apply vn (aR cF (by decide) (by simp) (.inl rfl)) rfl;apply aA (kL _ _ A A (aC hk _ hA1) (aC hk _ hA1)) rfl;apply vn bQ rfl;dsimp only [aE,aF];rw [decide_eq_true F.hl];exact aL rfl
 exact absurd F.hf ‹_›
def aa5 (kn:List Rat) (d i:Nat):List Rat:=(List.replicate (kn.length-d-1) 0).set i ((1:Int):Rat)
theorem aa0 {A:Nat} {kn:List Rat} {d i:Nat} (hA:62<=A):∀ a∈aa5 kn d i,Fit A a:=fun a ha=>by
 rcases List.mem_or_eq_of_mem_set ha with h | rfl
 .rw [(List.mem_replicate.1 h).2];exact Fit.zero (by omega)
 .exact (Fit.int (n:=1) (B:=62) (by omega) (by omega)).mono hA
theorem ac7 (kn:List Rat) (d i A:Nat) (hA1:62<=A) (hk:∀ a∈kn,Fit A a) (F:Fra kn d) (hi:i<kn.length-d-1) (hA:vZ A d+A<=10000):aQ prog 34 [(.one (sQ kn):aJ),(.one (.int .i64 (d:Int)):aJ),(.one (.int .i64 (i:Int)):aJ)] (.ret [.agg [sQ ((yP kn d (kn.length-1-d)).map (fun t=>kn.getD t 0) ++ [kn.getD (kn.length-1-d) 0]),eQ ((yP kn d (kn.length-1-d)).map (zS kn d (aa5 kn d i)))], .one (.int .i64 0)]):=by
 refine eH func34 an5 ?_;have hs:=F.hs;have hd:=F.hd;have h2:=F.h2;apply aA (NT kn d A hk F) rfl;apply vn gX rfl;refine pY false rfl (fun h=>by cases h) (fun _=>?_);apply vn bQ rfl;refine vs _ rfl ?_ ?_<;>intro h5
 .exfalso;omega
 apply aA (pV kn d) rfl;dsimp only [aE,aF];apply vn gJ rfl;refine vs _ rfl ?_ ?_<;>intro h9
 .exfalso;omega
 apply aA (ae7 kn d i) rfl;apply aA (UI kn (aa5 kn d i) d A hk (aa0 hA1) (by rw [aa5,List.length_set,List.length_replicate]) hA) rfl;exact aL rfl
open Go Go.Proofs Tryz Ord
def bk1:Tr:=aZ 129 [(W 0 0),(W 1 0)] [none] [6,7] [28,28] 4 true (.need (.prim [(W 2 0)] none) (.unOp .not 4 (tT 8)) 4 false (.split (.u 3 0) an1 (aZ 130 [(W 0 0),(W 1 0)] [(some 2)] [11,12] [28,28] 31 true (.ret [(G2 4),(WK 0)]))))
theorem UT:aV prog f49 (fun _=>none) [.v none, .v none]=bk1:=by kernel_rfl
def bh1:Tr:=aZ 67 [(G3 0),(G3 1)] [none] [4,5] [46,46] 3 true (bI .eql 3 6 0 2 0 4 ap5)
theorem RK:aV prog f109 (fun _=>none) [.v (some 3), .ref 3]=bh1:=by kernel_rfl
def MN:Tr:=.ret [(W 3 0)]
def KH:Tr:=.need (.prim [(W 2 0),(WK (0))] none) (.binOp .gtr 3 (.tmp 6) (.const (I3 (0))) 3) 4 false MN
def Jz:Tr:=.need (.call 67 [(.agg [(U 0 0),(U 0 1),(U 0 2)]),(.agg [(U 1 0),(U 1 1),(U 1 2)])] [none]) (.call ⟨.value (.func 67),#[(.tmp 4),(.tmp 5)],#[46,46]⟩) 3 true KH
theorem TO:aV prog f111 (fun _=>none) [.v (some 3), .ref 3]=Jz:=by kernel_rfl
theorem Dt (x y sol:List Rat) (A B:Nat) (hA1:1<=A) (hA:A<=10000000) (hx:∀ a∈x,Fit A a) (hy:∀ a∈y,Fit A a) (hsf:∀ a∈sol,Fit A a) (hs:x.length<549755813000) (h2:2<=x.length) (hxy:y.length=x.length) (hxs:sol.length=x.length) (hgv:mR x y=true) (hT:Oe x.length (x.length+1) B (lH x y)) (hB:1<=B) (hg:∀ k,k<=x.length->gA B k<=1000000000) (hsol:gF (lH x y)=some sol) (hsh:∀ i,i+1<x.length->aQ prog 205 [.one (sQ (cvP x y sol i)),qT (-(x.getD i 0))] (.ret [.one (sQ (fZ x y sol i))])):aQ prog 49 [(.one (sQ x):aJ),(.one (sQ y):aJ)] (.ret [.agg (uP x ((List.range (x.length-1)).map (fZ x y sol))), .one (.int .i64 0)]):=by
 refine eH func49 UT ?_;apply aA (Dn x y A hx hA1) rfl;rw [hgv];apply vn gX rfl;refine pY false rfl (fun h=>by cases h) (fun _=>?_);apply aA (Wa x y sol A B hA1 hA hx hy hsf hs h2 hxy hxs hT hB hg hsol hsh) rfl;exact aL rfl
end Go.Sy
