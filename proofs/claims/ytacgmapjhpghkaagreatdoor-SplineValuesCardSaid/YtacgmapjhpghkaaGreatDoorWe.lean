/- Part. -/
import Derived.Test.YtacgmapjhpghkaaGreatDoorWd
set_option linter.all false
namespace Go.Sy
open Go Go.Proofs Tryz Ord
def aW0:Tr:=dN 0 0 1 0 205 12 13 (dA 5 0 none 2 14 (aU 63 [(W 6 0)] [(some 3)] [15] [2] 46 true (.need (.lit 3 [[(.u 7 0),(.u 7 1),(.u 7 2)]]) (.buildSlice 28 1 #[(0,(tT 16))]) 28 false (.need (.app 3 56 (some 2) none (some 8)) (.call ⟨.builtin .append,#[(tT 11),(tT 17)],#[28,28]⟩) 28 false (bB .add 3 9 1 1 0 3 (.back 0 [lV 10 0, .row 9]))))))
def ay9:Tr:=.loop 0 [lK 0, .nilrow] (cL 0 0 6 205 (cE .lss 3 5 7 1 0 3 0 4 (.split (.u 4 0) aW0 (.ret [(.one (.c (.sr 3 2)))]))))
theorem am3:aM prog f71 (fun _=>none) [.v none]=ay9:=by kernel_rfl
def Kv:Tr:=.ret [(.one (.c (.k (.slice none 0 0))))]
def aV1:Tr:=aU 23 [(G3 1)] [none] [5] [46] 3 true (bB .eql 3 6 0 2 0 4 (.split (.u 3 0) Kv (.need (.call 113 [(WK 1)] [(some 3)]) (.call ⟨.value (.func 113),#[(.const (I3 1))],#[3]⟩) 46 false (aU 112 [(G3 4),(G3 1)] [(some 3)] [9,10] [46,46] 46 true (aU 125 [(W 0 0),(G3 5)] [none] [8,11] [98,46] 98 true (.ret [(W 6 0)]))))))
theorem ae4:aM prog f228 (fun _=>none) [.v none, .v (some 3)]=aV1:=by kernel_rfl
def am8:Tr:=aU 228 [(.one (.c (.sr 3 27))),(G3 35)] [none] [66,79] [98,46] 98 false (bB .add 3 82 1 1 0 3 (bB .sub 3 84 1 2 0 3 (aU 188 [(G3 0),(W 37 0),(W 38 0)] [none] [81,83,85] [228,3,3] 98 true (aU 64 [(W 36 0),(W 39 0)] [none] [80,86] [98,98] 98 true (aU 66 [(W 21 0),(W 40 0)] [none] [88,89] [98,98] 98 true (.ret [(W 41 0)]))))))
def ar2:Tr:=bB .add 3 70 1 28 0 3 (dN 0 0 29 0 28 67 71 (dA 30 0 (some 3) 46 72 (bB .add 3 75 1 1 0 3 (dN 0 0 32 0 28 74 76 (dA 33 0 (some 3) 46 77 (aU 86 [(G3 31),(G3 34)] [(some 3)] [73,78] [46,46] 46 false am8))))))
def am4:Tr:=cE .add 3 59 60 1 0 2 0 3 (bB .add 3 61 1 22 0 3 (dN 0 0 23 0 28 58 62 (dA 24 0 (some 3) 46 63 (.need (.call 113 [(WK (-1))] [(some 3)]) (.call ⟨.value (.func 113),#[(.const (I3 (-1)))],#[3]⟩) 46 false (.need (.lit 3 [[(.u 25 0),(.u 25 1),(.u 25 2)],[(.u 26 0),(.u 26 1),(.u 26 2)]]) (.buildSlice 98 2 #[(0,(tT 64)),(1,(tT 65))]) 98 false (cE .add 3 68 69 1 0 2 0 3 ar2))))))
def ae3:Tr:=dN 0 0 1 0 28 46 47 (dA 15 0 (some 3) 46 48 (aU 86 [(G3 14),(G3 16)] [(some 3)] [45,49] [46,46] 46 false (aU 228 [(.one (.c (.sr 3 11))),(G3 17)] [none] [39,50] [98,46] 98 false (bB .sub 3 54 1 2 0 3 (aU 188 [(G3 0),(W 1 0),(W 19 0)] [none] [52,53,55] [228,3,3] 98 true (aU 64 [(W 18 0),(W 20 0)] [none] [51,56] [98,98] 98 true am4))))))
def ab0:Tr:=dA 7 0 (some 3) 46 35 (aU 65 [(G3 8)] [(some 3)] [36] [46] 46 false (.need (.call 113 [(WK 1)] [(some 3)]) (.call ⟨.value (.func 113),#[(.const (I3 1))],#[3]⟩) 46 false (.need (.lit 3 [[(.u 9 0),(.u 9 1),(.u 9 2)],[(.u 10 0),(.u 10 1),(.u 10 2)]]) (.buildSlice 98 2 #[(0,(tT 37)),(1,(tT 38))]) 98 false (cE .add 3 41 42 1 0 2 0 3 (dN 0 0 12 0 28 40 43 (dA 13 0 (some 3) 46 44 ae3))))))
def aP4:Tr:=.split (.u 3 0) (cE .eql 3 12 14 1 0 0 2 4 (.split (.u 4 0) (.need (.call 113 [(WK 1)] [(some 3)]) (.call ⟨.value (.func 113),#[(.const (I3 1))],#[3]⟩) 46 true (.need (.lit 3 [[(.u 5 0),(.u 5 1),(.u 5 2)]]) (.buildSlice 98 1 #[(0,(tT 16))]) 98 false (.ret [(.one (.c (.sr 3 6)))]))) Kv)) (cE .lss 3 22 23 0 2 1 0 4 (.split (.u 4 0) Kv (cE .add 3 28 29 1 0 2 0 3 (cE .gtr 3 27 30 0 2 5 0 4 (.split (.u 6 0) Kv (dN 0 0 1 0 28 33 34 ab0))))))
def aM5:Tr:=bB .eql 3 10 0 2 0 4 aP4
theorem TL:aM prog f188 (fun _=>none) [.v (some 3), .v none, .v none]=aM5:=by kernel_rfl
def Zn:Tr:=.ret [(W 3 0)]
def aV4:Tr:=cL 0 0 4 28 (cE .sub 3 5 7 1 0 0 1 3 (bB .sub 3 8 1 2 0 3 Zn))
theorem Qt:aM prog f104 (fun _=>none) [.v (some 2)]=aV4:=by kernel_rfl
def aB7:Tr:=dN 0 0 0 1 28 4 6 (dA 1 0 (some 3) 46 7 (.ret [(G3 2)]))
theorem Zk:aM prog f107 (fun _=>none) [.v (some 2)]=aB7:=by kernel_rfl
def az0:Tr:=cL 0 0 6 28 (bB .sub 3 7 1 1 0 3 (cE .sub 3 8 10 2 0 0 1 3 (dN 0 0 3 0 28 4 11 (dA 4 0 (some 3) 46 12 (.ret [(G3 5)])))))
theorem ah2:aM prog f108 (fun _=>none) [.v (some 2)]=az0:=by kernel_rfl
def aO7:Tr:=aU 104 [(G2 0)] [none] [6] [157] 3 true (.need (.make [(.slice none 0 0),(.bool false),(.slice none 0 0)] 56 (.u 2 0) (.u 2 0)) (.makeSlice 28 (tT 7) (tT 7)) 28 false (.need (.call 113 [(WK 1)] [(some 3)]) (.call ⟨.value (.func 113),#[(.const (I3 1))],#[3]⟩) 46 true (.need (.idx 3 (.u 1 0)) (.indexAddr 28 (tT 9) (tT 10)) 0 false (.need (.strow 3 3 (.u 1 0) 0 [(.u 4 0),(.u 4 1),(.u 4 2)]) (.store 46 (tT 12) (tT 11)) 0 false (.ret [(.one (.c (.sr 3 5)))])))))
theorem XF:aM prog f106 (fun _=>none) [.v (some 2), .v none]=aO7:=by kernel_rfl
def uH:Tr:=.ret [(.agg [(U 0 0),(U 1 0)]),(tF false)]
def ap7:Tr:=dN 0 0 22 0 28 49 53 (dA 23 0 (some 3) 46 54 (aU 67 [(G3 20),(G3 24)] [none] [48,55] [46,46] 3 true (bB .eql 3 56 0 25 0 4 (.split (.u 26 0) uH (bB .add 3 43 1 14 0 3 (.back 0 [lV 13 0,lV 27 0,lV 15 0,lV 16 0]))))))
def an4:Tr:=dN 0 0 29 0 28 77 79 (dA 30 0 (some 3) 46 80 (dN 0 0 21 0 28 82 83 (dA 32 0 (some 3) 46 84 (aU 67 [(G3 31),(G3 33)] [none] [81,85] [46,46] 3 false (bB .lss 3 86 0 34 0 4 (.ret [(.agg [(U 0 0),(U 1 0)]),(W 35 0)]))))))
def ah6:Tr:=bB .add 3 70 1 1 0 3 (dN 0 0 24 0 28 69 71 (dA 25 0 (some 3) 46 72 (aU 67 [(G3 23),(G3 26)] [none] [68,73] [46,46] 3 false (bB .lss 3 74 0 27 0 4 (.split (.u 28 0) (bB .sub 3 78 1 21 0 3 an4) uH)))))
def ak1:Tr:=cE .lss 3 39 41 14 0 17 0 4 (.split (.u 18 0) (dN 0 0 14 0 28 45 46 (dA 19 0 (some 3) 46 47 (cE .sub 3 50 51 14 0 1 0 3 (bB .sub 3 52 1 21 0 3 ap7)))) (cL 0 0 59 28 (bB .sub 3 60 1 19 0 3 (cE .sub 3 61 62 20 0 1 0 3 (dN 0 0 1 0 28 65 66 (dA 22 0 (some 3) 46 67 ah6))))))
def ac5:Tr:=.split (.u 9 0) uH (.need (.call 90 [(W 0 0),(tF false)] [none]) (.call ⟨.value (.func 90),#[(tT 32),(.const (.bool false))],#[28,4]⟩) 4 false (.need (.prim [(W 10 0)] none) (.unOp .not 4 (tT 33)) 4 false (.split (.u 11 0) uH (bB .add 3 37 1 1 0 3 (.loop 0 [(.w (.one (.c (.k (.bool false))))),lV 12 0,lN,lK 0] (cL 0 0 40 28 ak1))))))
def aY4:Tr:=cL 0 0 19 28 (.need (.prim [(WK 2),(W 1 0)] none) (.binOp .mul 3 (.const (I3 2)) (tT 21) 3) 3 false (bB .add 3 22 2 5 0 3 (cE .lss 3 20 23 4 0 6 0 4 (.split (.u 7 0) uH (cL 0 0 27 28 (bB .gtr 3 28 60 8 0 4 ac5))))))
def aX5:Tr:=bB .lss 3 12 0 1 0 4 (.split (.u 2 0) uH (bB .gtr 3 15 5 1 0 4 (.split (.u 3 0) uH aY4)))
theorem UH:aM prog f103 (fun _=>none) [.v none, .v none]=aX5:=by kernel_rfl
theorem YJ {sz:Nat} {us ts:List (List aE)} (h:bG (bG aE.Sub) us ts):(aE.slice sz us).Sub (.slice sz ts):=by
 refine .inr ⟨fun M w v h=>by obtain ⟨a,cap,rfl,_⟩:=h;exact ⟨_,_,_,rfl⟩,fun M w v hv=>?_⟩;obtain ⟨a,cap,rfl,hc,hm,he⟩:=hv;have hl:=h.length;refine ⟨a,cap,by rw [hl],by omega,hm,?_⟩;rcases he with he | ⟨b,off,cs,T,fz,rfl,h1,h2,h3⟩
 ·exact .inl (List.length_eq_zero_iff.1 (by rw [←hl,he];rfl))
 ·refine .inr ⟨b,off,cs,T,fz,rfl,h1,h2,fun i t ht=>?_⟩;obtain ⟨u,hu⟩:∃ u,us[i]? = some u:=⟨_,bI (by have:=(dR.1 ht).1;omega)⟩
  obtain ⟨t',ht',hs⟩:=h.get i u hu;rw [ht] at ht';cases ht';obtain ⟨g1,g2⟩:=h3 i u hu;exact ⟨by rw [←g1];exact hs.length.symm,bE.sub hs g2⟩
abbrev zI (z:Int):List aE:=[.int .i64 z]
theorem ac7 (zs:List Int) (hz:∀ z∈zs,-9223372036854775808≤z∧z<9223372036854775808) (hs:zs.length<1099511627776):aN prog 71 [(.one (.slice 1 (zs.map zI)):aK)] (.ret [.one (sQ (zs.map fun (z:Int)=>(z:Rat)))]):=by
 refine cW func71 am3 ?_;refine bJ {i:Nat // i≤zs.length} (fun g=>[.one (.int .i64 (g.1:Int)), .rows (rQ ((zs.take g.1).map fun (z:Int)=>(z:Rat)))]) (fun g=>zs.length-g.1) ⟨0,cM _⟩ aO.rfl (fun _=>rfl) ?_;rintro ⟨i,hi⟩;dsimp only [aC,aD] at hi ⊢;have htl:((zs.take i).map fun (z:Int)=>(z:Rat)).length=i:=by rw [aH,List.length_take];omega
 apply vn (aL aw2 (aH _)) rfl;apply vn bF rfl;refine vs _ rfl ?_ ?_<;>intro h3
 ·obtain ⟨z,hz'⟩:∃ z,zs[i]? = some z:=⟨_,bI (by omega)⟩
  have hzb:=hz z (dE hz');apply vn (aG (f:=zI) aw2 (m:=i) (by omega) (Int.toNat_natCast i) hz') rfl;apply vn (bD ag2) rfl;dsimp only [aC,aD];apply aA (Bz z hzb.1 hzb.2) rfl;apply dJ (us:=[qC (z:Rat)]) rfl;refine dV (xs:=(zs.take i).map fun (z:Int)=>(z:Rat)) (x:=(z:Rat)) (f:=qC) rfl rfl (by omega) (by simp only [maxLen];omega) ?_;rw [show (zs.take i).map (fun (z:Int)=>(z:Rat)) ++ [(z:Rat)]=(zs.take (i+1)).map fun (z:Int)=>(z:Rat) by rw [List.take_add_one,hz',List.map_append];rfl];apply vn (aB (by omega) (by omega)) rfl;dsimp only [aC,aD];exact aY rfl ⟨⟨i+1,by omega⟩,aO.rfl,by show zs.length-(i+1)<zs.length-i;omega⟩
 rw [List.take_of_length_le (show zs.length≤i by omega)];exact aJ rfl
def iV (p:List Rat) (q:Rat):List Rat:=if q=0 then [] else VJ p (((1:Int):Rat)/q)
theorem Tc (p:List Rat) (q:Rat) (A B:Nat) (hl:p.length<1099511627776) (hp:∀ a∈p,Fit A a) (hq:Fit B q) (hA1:1≤A:=by omega) (hA:A+B≤17179869000:=by omega):aN prog 228 [(.one (sQ p):aK),(qT q:aK)] (.ret [.one (sQ (iV p q))]):=by
 refine cW func228 ae4 ?_;apply aA (gW _) rfl;apply vn cB rfl;refine vs _ rfl ?_ ?_<;>intro h2
 ·rw [iV,if_pos (sign_zero.1 ‹_›)];exact eM ⟨aE.Sub.nil,trivial⟩
 apply aA (eI 1) rfl;apply aA (nB _ _ 62 B (Fit.int (by omega) (by omega)) hq) rfl;rw [oU];dsimp only [aC,aD];apply aA (Ou _ _ A (62+B) hA1 hl hp ((Fit.int (by omega) (by omega)).div hq)) rfl;dsimp only [aC,aD];rw [show VJ p (((1:Int):Rat)/q)=iV p q by rw [iV,if_neg fun h=>‹¬ _› (sign_zero.2 h)]];exact aJ rfl
theorem pC (kn:List Rat) (d:Nat) (hs:kn.length<1099511627776:=by omega) (hd:d<1099511627776:=by omega):aN prog 104 [(.agg [sQ kn, .int .i64 (d:Int)]:aK)] (.ret [.one (.int .i64 ((kn.length:Int)-(d:Int)-1))]):=by
 refine cW func104 Qt ?_;apply vn (aL bP (aH _)) rfl;apply vn (aI (by omega) (by omega)) rfl;apply vn (aI (by omega) (by omega)) rfl;exact aJ rfl
theorem RS (kn:List Rat) (d:Nat) (hs:kn.length<1099511627776:=by omega) (hd:d<kn.length:=by omega):aN prog 108 [(.agg [sQ kn, .int .i64 (d:Int)]:aK)] (.ret [qT (kn.getD (kn.length-1-d) 0)]):=by
 refine cW func108 ah2 ?_;apply vn (aL bP (aH _)) rfl;apply vn (aI (by omega) (by omega)) rfl;apply vn (aI (by omega) (by omega)) rfl;dsimp only [aC,aD];apply vn (aG bP (m:=kn.length-1-d) (by omega) (by omega) (aQ (show kn.length-1-d<kn.length by omega))) rfl;apply vn (aR cK (by decide) (by simp) (.inl rfl)) rfl;exact aJ rfl
theorem Xd (kn:List Rat) (d i:Nat) (hs:kn.length<1099511627776:=by omega) (hd:d+1≤kn.length:=by omega) (hi:i<kn.length-d-1:=by omega):aN prog 106 [(.agg [sQ kn, .int .i64 (d:Int)]:aK),(.one (.int .i64 (i:Int)):aK)] (.ret [.one (sQ ((List.replicate (kn.length-d-1) 0).set i ((1:Int):Rat)))]):=by
 refine cW func106 XF ?_;apply aA (pC kn d hs) rfl;rw [show (kn.length:Int)-(d:Int)-1=((kn.length-d-1:Nat):Int) by omega];refine tC (n:=kn.length-d-1) (m:=kn.length-d-1) (us:=List.replicate (kn.length-d-1) z3) rfl rfl rfl (bA _) (by omega) (by simp only [maxLen];omega) ?_;apply aA (eI 1) rfl;refine pZ rfl rfl (by omega) (by rw [List.length_replicate];omega) ?_;refine Mj (ts:=List.replicate (kn.length-d-1) z3) (us:=(List.replicate (kn.length-d-1) z3).set i (qC ((1:Int):Rat))) rfl rfl (by omega) (cells:=z3) (by rw [Int.toNat_natCast,List.getElem?_replicate,if_pos (by omega)]) (by rw [Int.toNat_natCast];rfl) ?_;dsimp only [aC,aD];refine eM ⟨YJ ?_,trivial⟩;rw [rQ,List.map_set,List.map_replicate];exact Cj ⟨aE.Sub.same,aE.Sub.same,aE.Sub.same,trivial⟩ i (vK gX _)
def tG (kn:List Rat) (i:Nat):Nat→Nat→List Rat
 | 0,j=>if j=i then [((1:Int):Rat)] else []
 | e+1,j=>if i<j∨j+(e+1)<i then [] else
   qX (jO (iV [-(kn.getD j 0),((1:Int):Rat)] (kn.getD (j+(e+1)) 0-kn.getD j 0)) (tG kn i e j)) (jO (iV [kn.getD (j+(e+1)+1) 0,((-1:Int):Rat)] (kn.getD (j+(e+1)+1) 0-kn.getD (j+1) 0)) (tG kn i e (j+1)))
def uO (A:Nat):Nat→Nat
 | 0=>62
 | e+1=>2*((3*A+130)*3+uO A e*(e+2)+7)+1
theorem lH {p:List Rat} {q:Rat}:(iV p q).length≤p.length:=by
 unfold iV;split
 ·exact cM _
 ·exact Nat.le_trans (iW _) (by rw [aH,pN];exact bA _)
theorem Kj {A B:Nat} {p:List Rat} {q:Rat} (hA:1≤A) (hp:∀ a∈p,Fit A a) (hq:Fit B q):∀ a∈iV p q,Fit (A+(62+B)) a:=by
 intro a ha;unfold iV at ha;split at ha
 ·cases ha
 ·have h:=nW ha;obtain ⟨i,_,rfl⟩:=eB.1 h;exact (aF hp i hA).mul ((Fit.int (n:=1) (B:=62) (by omega) (by omega)).div hq)
theorem lF (kn:List Rat) (i:Nat):∀ e j,(tG kn i e j).length≤e+1
 | 0,j=>by unfold tG;split<;>simp
 | e+1,j=>by
   unfold tG;split
   ·exact cM _
   ·have h1:=rV (iV [-(kn.getD j 0),((1:Int):Rat)] (kn.getD (j+(e+1)) 0-kn.getD j 0)) (tG kn i e j);have h2:=rV (iV [kn.getD (j+(e+1)+1) 0,((-1:Int):Rat)] (kn.getD (j+(e+1)+1) 0-kn.getD (j+1) 0)) (tG kn i e (j+1));have h3:=lF kn i e j;have h4:=lF kn i e (j+1);have h5:=lH (p:=[-(kn.getD j 0),((1:Int):Rat)]) (q:=kn.getD (j+(e+1)) 0-kn.getD j 0);have h6:=lH (p:=[kn.getD (j+(e+1)+1) 0,((-1:Int):Rat)]) (q:=kn.getD (j+(e+1)+1) 0-kn.getD (j+1) 0);simp only [List.length_cons,List.length_nil] at h5 h6;exact Nat.le_trans (Dr _ _) (by omega)
theorem wL {A:Nat} {a b:Rat} (ha:Fit A a) (hb:Fit 62 b):∀ x ∈ [a,b],Fit (A+62) x:=fun x hx=>by
 rcases List.mem_cons.1 hx with rfl | hx
 ·exact ha.mono (by omega)
 ·rw [List.mem_singleton.1 hx];exact hb.mono (by omega)
section
variable {A:Nat} {kn:List Rat} (hA1:1≤A) (hk:∀ a∈kn,Fit A a)
include hA1 hk
theorem SR (e j:Nat):∀ a∈iV [-(kn.getD j 0),((1:Int):Rat)] (kn.getD (j+(e+1)) 0-kn.getD j 0),Fit (3*A+130) a:=fun a ha=>
 (Kj (by omega) (wL (aF hk j hA1).neg (Fit.int (by omega) (by omega))) ((aF hk _ hA1).sub (aF hk _ hA1)) a ha).mono (by omega)
theorem So (e j:Nat):∀ a∈iV [kn.getD (j+(e+1)+1) 0,((-1:Int):Rat)] (kn.getD (j+(e+1)+1) 0-kn.getD (j+1) 0),Fit (3*A+130) a:=fun a ha=>
 (Kj (by omega) (wL (aF hk _ hA1) (Fit.int (by omega) (by omega))) ((aF hk _ hA1).sub (aF hk _ hA1)) a ha).mono (by omega)
theorem kY (i:Nat):∀ e j,∀ a∈tG kn i e j,Fit (uO A e) a
 | 0,j=>by
   intro a ha;unfold tG at ha;split at ha
   ·rw [List.mem_singleton.1 ha];exact (Fit.int (n:=1) (B:=62) (by omega) (by omega):Fit 62 _)
   ·cases ha
 | e+1,j=>by
   intro a ha;unfold tG at ha;split at ha
   ·cases ha
   ·have h3:=lF kn i e j;have h4:=lF kn i e (j+1);have h5:=lH (p:=[-(kn.getD j 0),((1:Int):Rat)]) (q:=kn.getD (j+(e+1)) 0-kn.getD j 0);have h6:=lH (p:=[kn.getD (j+(e+1)+1) 0,((-1:Int):Rat)]) (q:=kn.getD (j+(e+1)+1) 0-kn.getD (j+1) 0);simp only [List.length_cons,List.length_nil] at h5 h6
    have m1:∀ a∈jO (iV [-(kn.getD j 0),((1:Int):Rat)] (kn.getD (j+(e+1)) 0-kn.getD j 0)) (tG kn i e j),Fit ((3*A+130)*3+uO A e*(e+2)+7) a:=fun a ha=>(rJ (SR hA1 hk e j) (kY i e j) (by omega) a ha).mono (by
     have:=Nat.mul_le_mul_left (3*A+130) (show (iV [-(kn.getD j 0),((1:Int):Rat)] (kn.getD (j+(e+1)) 0-kn.getD j 0)).length+1≤3 by omega);have:=Nat.mul_le_mul_left (uO A e) (show (tG kn i e j).length+1≤e+2 by omega);omega)
    have m2:∀ a∈jO (iV [kn.getD (j+(e+1)+1) 0,((-1:Int):Rat)] (kn.getD (j+(e+1)+1) 0-kn.getD (j+1) 0)) (tG kn i e (j+1)),Fit ((3*A+130)*3+uO A e*(e+2)+7) a:=fun a ha=>(rJ (So hA1 hk e j) (kY i e (j+1)) (by omega) a ha).mono (by
     have:=Nat.mul_le_mul_left (3*A+130) (show (iV [kn.getD (j+(e+1)+1) 0,((-1:Int):Rat)] (kn.getD (j+(e+1)+1) 0-kn.getD (j+1) 0)).length+1≤3 by omega);have:=Nat.mul_le_mul_left (uO A e) (show (tG kn i e (j+1)).length+1≤e+2 by omega);omega)
    exact (BB (by omega) (by omega) m1 m2 a ha).mono (by rw [uO];omega)
end
theorem JY (kn:List Rat) (d i j e A:Nat) (hA1:1≤A) (hk:∀ a∈kn,Fit A a) (hs:kn.length<1000000000) (hA:uO A e≤1000000000) (hij:i<1000000000) (he:e≤60) (hj:e=0∨j+e+1<kn.length) (hj2:j<1000000000) (ih:∀ e' j',e=e'+1→j'=j∨j'=j+1→aN prog 188 [.agg [sQ kn, .int .i64 (d:Int), .int .i64 (i:Int)], .one (.int .i64 (j':Int)), .one (.int .i64 (e':Int))] (.ret [.one (sQ (tG kn i e' j'))])):aN prog 188 [(.agg [sQ kn, .int .i64 (d:Int), .int .i64 (i:Int)]:aK),(.one (.int .i64 (j:Int)):aK),(.one (.int .i64 (e:Int)):aK)] (.ret [.one (sQ (tG kn i e j))]):=by
 refine cW func188 TL ?_;apply vn cB rfl;refine vs _ rfl ?_ ?_<;>intro h1
 ·obtain rfl:e=0:=by omega
  apply vn cB rfl;refine vs _ rfl ?_ ?_<;>intro h3
  ·apply aA (eI 1) rfl;apply dJ (us:=[qC ((1:Int):Rat)]) rfl;dsimp only [aC,aD];rw [show tG kn i 0 j = [((1:Int):Rat)] by rw [tG,if_pos (by omega)]];exact aJ rfl
  rw [show tG kn i 0 j = [] by rw [tG,if_neg (by omega)]];exact eM ⟨aE.Sub.nil,trivial⟩
 obtain ⟨e,rfl⟩:∃ e',e=e'+1:=⟨e-1,by omega⟩
 have hb1:=SR hA1 hk e j;have hb2:=So hA1 hk e j;have hl3:=lF kn i e j;have hl4:=lF kn i e (j+1);have hl5:=lH (p:=[-(kn.getD j 0),((1:Int):Rat)]) (q:=kn.getD (j+(e+1)) 0-kn.getD j 0);have hl6:=lH (p:=[kn.getD (j+(e+1)+1) 0,((-1:Int):Rat)]) (q:=kn.getD (j+(e+1)+1) 0-kn.getD (j+1) 0);simp only [List.length_cons,List.length_nil] at hl5 hl6;have hx:=hA;rw [uO] at hx;have hq1:=Nat.mul_le_mul_left (3*A+130) (show (iV [-(kn.getD j 0),((1:Int):Rat)] (kn.getD (j+(e+1)) 0-kn.getD j 0)).length+1≤3 by omega);have hq2:=Nat.mul_le_mul_left (uO A e) (show (tG kn i e j).length+1≤e+2 by omega);have hq3:=Nat.mul_le_mul_left (3*A+130) (show (iV [kn.getD (j+(e+1)+1) 0,((-1:Int):Rat)] (kn.getD (j+(e+1)+1) 0-kn.getD (j+1) 0)).length+1≤3 by omega);have hq4:=Nat.mul_le_mul_left (uO A e) (show (tG kn i e (j+1)).length+1≤e+2 by omega);apply vn bF rfl;refine vs _ rfl ?_ ?_<;>intro h9
 ·rw [show tG kn i (e+1) j = [] by rw [tG,if_pos (by omega)]];exact eM ⟨aE.Sub.nil,trivial⟩
 apply vn (aB (by omega) (by omega)) rfl;apply vn eF rfl;refine vs _ rfl ?_ ?_<;>intro h13
 ·rw [show tG kn i (e+1) j = [] by rw [tG,if_pos (by omega)]];exact eM ⟨aE.Sub.nil,trivial⟩
 apply vn (aG bP (m:=j) (by omega) (Int.toNat_natCast j) (aQ (show j<kn.length by omega))) rfl;dsimp only [aC,aD];apply vn (aR cK (by decide) (by simp) (.inl rfl)) rfl;apply aA (QU _) rfl;apply aA (eI 1) rfl;apply dJ (us:=rQ [-(kn.getD j 0),((1:Int):Rat)]) rfl;dsimp only [aC,aD];apply vn (aB (by omega) (by omega)) rfl;dsimp only [aC,aD];apply vn (aG bP (m:=j+(e+1)) (by omega) (by omega) (aQ (show j+(e+1)<kn.length by omega))) rfl;apply vn (aR cK (by decide) (by simp) (.inl rfl)) rfl;dsimp only [aC,aD];apply vn (aG bP (m:=j) (by omega) (Int.toNat_natCast j) (aQ (show j<kn.length by omega))) rfl;apply vn (aR cK (by decide) (by simp) (.inl rfl)) rfl;apply aA (jK _ _ A A (aF hk _ hA1) (aF hk _ hA1)) rfl;apply aA (Tc _ _ (A+62) (A+A+1) (by simp) (wL (aF hk j hA1).neg (Fit.int (by omega) (by omega))) ((aF hk _ hA1).sub (aF hk _ hA1))) rfl;dsimp only [aC,aD];apply vn (aI (by omega) (by omega)) rfl;dsimp only [aC,aD];rw [show ((e+1:Nat):Int)-1=(e:Int) by omega];apply aA (ih e j rfl (.inl rfl)) rfl;apply aA (KO _ _ (3*A+130) (uO A e) hb1 (kY hA1 hk i e j)) rfl;apply vn (aB (by omega) (by omega)) rfl;apply vn (aB (by omega) (by omega)) rfl;dsimp only [aC,aD];apply vn (aG bP (m:=j+(e+1)+1) (by omega) (by omega) (aQ (show j+(e+1)+1<kn.length by omega))) rfl;apply vn (aR cK (by decide) (by simp) (.inl rfl)) rfl;apply aA (eI (-1)) rfl;apply dJ (us:=rQ [kn.getD (j+(e+1)+1) 0,((-1:Int):Rat)]) rfl;dsimp only [aC,aD];apply vn (aB (by omega) (by omega)) rfl;apply vn (aB (by omega) (by omega)) rfl;dsimp only [aC,aD];apply vn (aG bP (m:=j+(e+1)+1) (by omega) (by omega) (aQ (show j+(e+1)+1<kn.length by omega))) rfl;apply vn (aR cK (by decide) (by simp) (.inl rfl)) rfl;apply vn (aB (by omega) (by omega)) rfl;dsimp only [aC,aD];apply vn (aG bP (m:=j+1) (by omega) (by omega) (aQ (show j+1<kn.length by omega))) rfl;apply vn (aR cK (by decide) (by simp) (.inl rfl)) rfl;apply aA (jK _ _ A A (aF hk _ hA1) (aF hk _ hA1)) rfl;apply aA (Tc _ _ (A+62) (A+A+1) (by simp) (wL (aF hk _ hA1) (Fit.int (by omega) (by omega))) ((aF hk _ hA1).sub (aF hk _ hA1))) rfl;dsimp only [aC,aD];apply vn (aB (by omega) (by omega)) rfl;dsimp only [aC,aD];rw [show ((j:Int)+1)=((j+1:Nat):Int) by omega];apply vn (aI (by omega) (by omega)) rfl;dsimp only [aC,aD];rw [show ((e+1:Nat):Int)-1=(e:Int) by omega];apply aA (ih e (j+1) rfl (.inr rfl)) rfl;apply aA (KO _ _ (3*A+130) (uO A e) hb2 (kY hA1 hk i e (j+1))) rfl;dsimp only [aC,aD];apply aA (Ls _ _ _ _ (show 1≤(3*A+130)*3+uO A e*(e+2)+7 by omega) (show 1≤(3*A+130)*3+uO A e*(e+2)+7 by omega) (fun a ha=>(rJ hb1 (kY hA1 hk i e j) (by omega) a ha).mono (by omega)) (fun a ha=>(rJ hb2 (kY hA1 hk i e (j+1)) (by omega) a ha).mono (by omega)) (by omega) (Nat.lt_of_le_of_lt (rV _ _) (by omega)) (Nat.lt_of_le_of_lt (rV _ _) (by omega))) rfl;dsimp only [aC,aD];rw [show tG kn i (e+1) j=_ by rw [tG,if_neg (by omega)]];exact aJ rfl
theorem BF (kn:List Rat) (d i A:Nat) (hA1:1≤A) (hk:∀ a∈kn,Fit A a) (hs:kn.length<1000000000) (hij:i<1000000000):∀ (e j:Nat),uO A e≤1000000000→e≤60→(e=0∨j+e+1<kn.length)→j<999999900-e→aN prog 188 [.agg [sQ kn, .int .i64 (d:Int), .int .i64 (i:Int)], .one (.int .i64 (j:Int)), .one (.int .i64 (e:Int))] (.ret [.one (sQ (tG kn i e j))])
 | 0,j,hA,he,hj,hj2=>JY kn d i j 0 A hA1 hk hs hA hij he hj (by omega) fun e' j' h=>by omega
 | e+1,j,hA,he,hj,hj2=>JY kn d i j (e+1) A hA1 hk hs hA hij he hj (by omega) fun e' j' h hj'=>by
   obtain rfl:e'=e:=by omega
   have hx:=hA;rw [uO] at hx;have h9:=Nat.le_mul_of_pos_right (uO A e') (show 0<e'+2 by omega);exact BF kn d i A hA1 hk hs hij e' j' (by omega) (by omega) (by omega) (by omega)
open Go Go.Proofs Tryz Ord
def ao1:Tr:=aU 188 [(.agg [(U 0 0),(U 0 1),(U 2 0)]),(W 19 0),(W 0 1)] [none] [55,56,59] [228,3,3] 98 false (dN 1 0 19 0 28 61 62 (dA 25 0 (some 3) 46 63 (aU 125 [(W 24 0),(G3 26)] [none] [60,64] [98,46] 98 true (aU 66 [(W 18 0),(W 27 0)] [none] [54,65] [98,98] 98 true (bB .add 3 52 1 19 0 3 (.back 1 [lV 28 0,lV 29 0]))))))
def ag9:Tr:=dA 24 0 (some 3) 46 72 (.need (.lit 3 [[(.u 25 0),(.u 25 1),(.u 25 2)]]) (.buildSlice 28 1 #[(0,(tT 73))]) 28 false (.need (.app 3 56 (some 3) none (some 26)) (.call ⟨.builtin .append,#[(tT 68),(tT 74)],#[28,28]⟩) 28 false (.need (.lit 1 [[(.u 18 0)]]) (.buildSlice 29 1 #[(0,(tT 78))]) 29 false (.need (.app 1 24 (some 4) none (some 28)) (.call ⟨.builtin .append,#[(tT 77),(tT 79)],#[29,29]⟩) 29 false (bB .add 3 21 1 2 0 3 (.back 0 [lV 30 0, .row 27, .row 29]))))))
def ak5:Tr:=.loop 1 [lN,lV 17 0] (aU 104 [(G2 0)] [none] [47] [157] 3 false (bB .sub 3 48 1 20 0 3 (.need (.prim [(W 2 0),(W 21 0)] none) (.call ⟨.builtin .min,#[(tT 45),(tT 49)],#[3,3]⟩) 3 false (cE .leq 3 44 50 19 0 22 0 4 (.split (.u 23 0) ao1 (dN 0 0 2 0 28 70 71 ag9))))))
def aQ7:Tr:=dN 0 0 11 0 28 29 31 (dA 12 0 (some 3) 46 32 (aU 67 [(G3 10),(G3 13)] [none] [27,33] [46,46] 3 true (bB .eql 3 34 0 14 0 4 (.split (.u 15 0) (bB .add 3 21 1 2 0 3 (.back 0 [lV 16 0, .row 3, .row 4])) (cE .sub 3 39 41 2 0 0 1 3 (.need (.prim [(W 16 0),(WK 0)] none) (.call ⟨.builtin .max,#[(tT 42),(.const (I3 0))],#[3,3]⟩) 3 false ak5))))))
def aS6:Tr:=cE .sub 3 16 18 6 0 0 1 3 (cE .lss 3 12 19 2 0 7 0 4 (.split (.u 8 0) (dN 0 0 2 0 28 24 25 (dA 9 0 (some 3) 46 26 (bB .add 3 30 1 2 0 3 aQ7))) (aU 108 [(G2 0)] [(some 3)] [85] [157] 46 true (.need (.lit 3 [[(.u 9 0),(.u 9 1),(.u 9 2)]]) (.buildSlice 28 1 #[(0,(tT 86))]) 28 false (.need (.app 3 56 (some 3) none (some 10)) (.call ⟨.builtin .append,#[(tT 84),(tT 87)],#[28,28]⟩) 28 false (.ret [(.agg [(.c (.sr 3 11)),(.c (.sr 1 4))])]))))))
def aU8:Tr:=.loop 0 [lV 0 1, .nilrow, .nilrow] (cL 0 0 14 28 (bB .sub 3 15 1 5 0 3 aS6))
theorem RH:aM prog f105 (fun _=>none) [.v (some 2), .v none]=aU8:=by kernel_rfl
theorem Ti {A B:Nat} {p:List Rat} {k:Rat} (hA:1≤A) (hp:∀ a∈p,Fit A a) (hk:Fit B k):∀ a∈VJ p k,Fit (A+B) a:=by
 intro a ha;obtain ⟨i,_,rfl⟩:=eB.1 (nW ha);exact (aF hp i hA).mul hk
theorem SK (p:List Rat) (k:Rat):(VJ p k).length≤p.length:=Nat.le_trans (iW _) (by rw [aH,pN];exact bA _)
def Nk (kn:List Rat) (d:Nat) (cf:List Rat) (i lo n:Nat):List Rat:=(List.range n).foldl (fun acc t=>qX acc (VJ (tG kn i d (lo+t)) (cf.getD (lo+t) 0))) []
theorem yG (kn:List Rat) (d:Nat) (cf:List Rat) (i lo n:Nat):Nk kn d cf i lo (n+1)=qX (Nk kn d cf i lo n) (VJ (tG kn i d (lo+n)) (cf.getD (lo+n) 0)):=by
 rw [Nk,List.range_succ,List.foldl_append];rfl
theorem Ox (kn:List Rat) (d:Nat) (cf:List Rat) (i lo:Nat):∀ n,(Nk kn d cf i lo n).length≤d+1
 | 0=>cM _
 | n+1=>by
   rw [yG];have h1:=Ox kn d cf i lo n;have h2:=SK (tG kn i d (lo+n)) (cf.getD (lo+n) 0);have h3:=lF kn i d (lo+n);exact Nat.le_trans (Dr _ _) (by omega)
theorem PD {A:Nat} {kn cf:List Rat} (hA1:1≤A) (hk:∀ a∈kn,Fit A a) (hc:∀ a∈cf,Fit A a) (d i lo:Nat) (hb:1≤uO A d):∀ n,∀ a∈Nk kn d cf i lo n,Fit (1+n*(uO A d+A+1)) a
 | 0=>fun a ha=>by cases ha
 | n+1=>fun a ha=>by
   rw [yG] at ha;exact (BB (by omega) (by omega) (PD hA1 hk hc d i lo hb n) (Ti hb (kY hA1 hk i d (lo+n)) (aF hc (lo+n) hA1)) a ha).mono (by rw [Nat.add_mul];omega)
def xY (kn:List Rat) (d:Nat) (cf:List Rat) (i:Nat):List Rat:=Nk kn d cf i (i-d) (min i (kn.length-d-1-1)+1-(i-d))
def wY (kn:List Rat) (d i:Nat):List Nat:=(List.range i).filter fun t=>decide (d≤t∧kn.getD t 0≠kn.getD (t+1) 0)
theorem Zs {kn:List Rat} {d i:Nat} (h:¬ (d≤i∧kn.getD i 0≠kn.getD (i+1) 0)):wY kn d (i+1)=wY kn d i:=by
 rw [wY,List.range_succ,List.filter_append,List.filter_cons_of_neg (by simpa using h)];simp [wY]
theorem Np {kn:List Rat} {d i:Nat} (h:d≤i∧kn.getD i 0≠kn.getD (i+1) 0):wY kn d (i+1)=wY kn d i ++ [i]:=by
 rw [wY,List.range_succ,List.filter_append,List.filter_cons_of_pos (by simpa using h)];simp [wY]
theorem af3 (kn:List Rat) (d i:Nat):(wY kn d i).length≤i:=by
 have:=List.length_filter_le (fun t=>decide (d≤t∧kn.getD t 0≠kn.getD (t+1) 0)) (List.range i);rw [pN] at this;exact this
theorem WN (kn:List Rat) (d:Nat):wY kn d d = []:=by
 rw [wY,List.filter_eq_nil_iff];intro t ht;have:=List.mem_range.1 ht;simp;omega
theorem ar8 (A:Nat):∀ e,1≤uO A e
 | 0=>by simp [uO]
 | e+1=>by rw [uO];omega
theorem yE {a b:Rat}:fL a b=0↔a=b:=by
 unfold fL;split
 ·rename_i h;constructor
  ·intro h';cases h'
  ·rintro rfl;exact absurd h (Rat.lt_irrefl)
 ·split
  ·rename_i h1 h;constructor
   ·intro h';cases h'
   ·rintro rfl;exact absurd h (Rat.lt_irrefl)
  ·rename_i h1 h2;exact ⟨fun _=>Rat.le_antisymm (Rat.not_lt.1 h2) (Rat.not_lt.1 h1),fun _=>rfl⟩
theorem Ql (kn cf:List Rat) (d A:Nat) (hk:∀ a∈kn,Fit A a) (hc:∀ a∈cf,Fit A a) (hcl:cf.length=kn.length-d-1) (hA:uO A d+A≤10000) (hA1:1≤A:=by omega) (hs:kn.length<1000000:=by omega) (hd:d≤60:=by omega) (h2:2*d+2≤kn.length:=by omega):aN prog 105 [(.agg [sQ kn, .int .i64 (d:Int)]:aK),(.one (sQ cf):aK)] (.ret [.agg [sQ ((wY kn d (kn.length-1-d)).map (fun t=>kn.getD t 0) ++ [kn.getD (kn.length-1-d) 0]),eQ ((wY kn d (kn.length-1-d)).map (xY kn d cf))]]):=by
 refine cW func105 RH ?_;have hb1:=ar8 A d;refine bJ {i:Nat // d≤i∧i≤kn.length-1-d} (fun g=>[.one (.int .i64 (g.1:Int)), .rows (rQ ((wY kn d g.1).map fun t=>kn.getD t 0)), .rows (((wY kn d g.1).map (xY kn d cf)).map cQ)]) (fun g=>kn.length-g.1) ⟨d,bA _,by omega⟩ (by dsimp only;rw [WN];exact aO.rfl) (fun _=>rfl) ?_;rintro ⟨i,hdi,hi⟩;dsimp only [aC,aD] at hdi hi ⊢;have hnl:=af3 kn d i;have hm1:((wY kn d i).map fun t=>kn.getD t 0).length≤i:=by rw [aH];exact hnl
 have hm2:((wY kn d i).map (xY kn d cf)).length≤i:=by rw [aH];exact hnl
 apply vn (aL bP (aH _)) rfl;apply vn (aI (by omega) (by omega)) rfl;apply vn (aI (by omega) (by omega)) rfl;apply vn bF rfl;dsimp only [aC,aD];refine vs _ rfl ?_ ?_<;>intro h5
 ·apply vn (aG bP (m:=i) (by omega) (Int.toNat_natCast i) (aQ (show i<kn.length by omega))) rfl;apply vn (aR cK (by decide) (by simp) (.inl rfl)) rfl;apply vn (aB (by omega) (by omega)) rfl;dsimp only [aC,aD];apply vn (aG bP (m:=i+1) (by omega) (by omega) (aQ (show i+1<kn.length by omega))) rfl;apply vn (aR cK (by decide) (by simp) (.inl rfl)) rfl;apply aA (iB _ _ A A (aF hk _ hA1) (aF hk _ hA1)) rfl;apply vn cB rfl;dsimp only [aC,aD];refine vs _ rfl ?_ ?_<;>intro h13
  ·have heq:=yE.1 ‹_›;apply vn (aB (by omega) (by omega)) rfl;dsimp only [aC,aD];rw [←Zs (kn:=kn) (d:=d) (i:=i) (by rintro ⟨_,h⟩;exact h heq)];exact aY rfl ⟨⟨i+1,by omega,by omega⟩,aO.rfl,by show kn.length-(i+1)<kn.length-i;omega⟩
  have hne:kn.getD i 0≠kn.getD (i+1) 0:=fun h=>‹¬ _› (yE.2 h);apply vn (aI (by omega) (by omega)) rfl;apply vn Zy rfl;dsimp only [aC,aD];rw [show max ((i:Int)-(d:Int)) 0=((i-d:Nat):Int) by omega];refine bJ {n:Nat // n≤min i (kn.length-d-1-1)+1-(i-d)} (fun g=>[.one (sQ (Nk kn d cf i (i-d) g.1)), .one (.int .i64 ((i-d+g.1:Nat):Int))]) (fun g=>min i (kn.length-d-1-1)+1-(i-d)-g.1) ⟨0,cM _⟩ ⟨aE.Sub.nil, .inl rfl,trivial⟩ (fun _=>rfl) ?_;rintro ⟨n,hn⟩;dsimp only [aC,aD] at hn ⊢;have hcf:=PD hA1 hk hc d i (i-d) hb1 n;have hcn:=Ox kn d cf i (i-d) n;have hnb:n*(uO A d+A+1)≤100*(uO A d+A+1):=Nat.mul_le_mul_right _ (by omega);apply aA (pC kn d) rfl;apply vn (aI (by omega) (by omega)) rfl;apply vn Td rfl;apply vn iZ rfl;dsimp only [aC,aD];refine vs _ rfl ?_ ?_<;>intro h23
  ·have hlt:i-d+n<cf.length:=by omega
   apply aA (BF kn d i A hA1 hk (by omega) (by omega) d (i-d+n) (by omega) (by omega) (by omega) (by omega)) rfl;apply vn (aG bP (m:=i-d+n) (by omega) (Int.toNat_natCast _) (aQ hlt)) rfl;apply vn (aR cK (by decide) (by simp) (.inl rfl)) rfl;apply aA (Ou _ _ (uO A d) A hb1 (Nat.lt_of_le_of_lt (lF _ _ _ _) (by omega)) (kY hA1 hk i d _) (aF hc _ hA1)) rfl;dsimp only [aC,aD];apply aA (Ls _ _ (1+n*(uO A d+A+1)) (uO A d+A) (by omega) (by omega) hcf (Ti hb1 (kY hA1 hk i d _) (aF hc _ hA1)) (by omega) (by omega) (Nat.lt_of_le_of_lt (Nat.le_trans (SK _ _) (lF _ _ _ _)) (by omega))) rfl;rw [←yG];apply vn (aB (by omega) (by omega)) rfl;dsimp only [aC,aD];exact aY rfl ⟨⟨n+1,by omega⟩,⟨.inl rfl, .inl (by rw [show ((i-d+(n+1):Nat):Int)=((i-d+n:Nat):Int)+1 by omega];rfl),trivial⟩,by show min i (kn.length-d-1-1)+1-(i-d)-(n+1)<min i (kn.length-d-1-1)+1-(i-d)-n;omega⟩
  rw [show Nk kn d cf i (i-d) n=xY kn d cf i by rw [xY,show n=min i (kn.length-d-1-1)+1-(i-d) by omega]];apply vn (aG bP (m:=i) (by omega) (Int.toNat_natCast i) (aQ (show i<kn.length by omega))) rfl;apply vn (aR cK (by decide) (by simp) (.inl rfl)) rfl;apply dJ (us:=[qC (kn.getD i 0)]) rfl;refine dV (xs:=(wY kn d i).map fun t=>kn.getD t 0) (x:=kn.getD i 0) (f:=qC) rfl rfl (by omega) (by simp only [maxLen];omega) ?_;dsimp only [aC,aD];apply dJ (us:=[cQ (xY kn d cf i)]) rfl;refine dV (xs:=(wY kn d i).map (xY kn d cf)) (x:=xY kn d cf i) (f:=cQ) rfl rfl (by omega) (by simp only [maxLen];omega) ?_;rw [show (wY kn d i).map (fun t=>kn.getD t 0) ++ [kn.getD i 0]=(wY kn d (i+1)).map fun t=>kn.getD t 0 by rw [Np ⟨hdi,hne⟩,List.map_append];rfl,show (wY kn d i).map (xY kn d cf) ++ [xY kn d cf i]=(wY kn d (i+1)).map (xY kn d cf) by rw [Np ⟨hdi,hne⟩,List.map_append];rfl];apply vn (aB (by omega) (by omega)) rfl;dsimp only [aC,aD];exact aY rfl ⟨⟨i+1,by omega,by omega⟩,aO.rfl,by show kn.length-(i+1)<kn.length-i;omega⟩
 obtain rfl:i=kn.length-1-d:=by omega
 apply aA (RS kn d) rfl;apply dJ (us:=[qC (kn.getD (kn.length-1-d) 0)]) rfl;refine dV (xs:=(wY kn d (kn.length-1-d)).map fun t=>kn.getD t 0) (x:=kn.getD (kn.length-1-d) 0) (f:=qC) rfl rfl (by omega) (by simp only [maxLen];omega) ?_;exact aJ rfl
open Go Go.Proofs Tryz Ord
def YT:Tr:=.ret [(.agg [tN,tN]),(WK 2)]
def YB:Tr:=.ret [(.agg [tN,tN]),(WK 3)]
def aC2:Tr:=.split (.u 6 0) YB (aU 104 [(G2 3)] [none] [25] [157] 3 false (cE .geq 3 24 26 2 0 7 0 4 (.split (.u 8 0) YB (aU 106 [(G2 3),(W 2 0)] [none] [31,32] [157,3] 28 true (aU 105 [(G2 3),(W 9 0)] [(some 2)] [30,33] [157,28] 31 true (.ret [(G2 10),(WK 0)]))))))
def aV7:Tr:=aU 103 [(W 0 0),(W 1 0)] [(some 2),none] [11,12] [28,3] 158 false (.need (.prim [(W 4 0)] none) (.unOp .not 4 (tT 17)) 4 false (.split (.u 5 0) YT (bB .lss 3 21 0 2 0 4 aC2)))
theorem YX:aM prog f34 (fun _=>none) [.v none, .v none, .v none]=aV7:=by kernel_rfl
structure Fra (kn:List Rat) (d:Nat):Prop where
 hs:kn.length≤60
 hd:d≤5
 h2:2*d+2≤kn.length
 hr:jS false kn=true
 hm:∀ j,d+1≤j→j<kn.length→kn.getD j 0≠kn.getD (j-d-1) 0
 hf:fL (kn.getD d 0) (kn.getD (d+1) 0)<0
 hl:fL (kn.getD (kn.length-1-d-1) 0) (kn.getD (kn.length-1-d) 0)<0
theorem JS (kn:List Rat) (d A:Nat) (hk:∀ a∈kn,Fit A a) (F:Fra kn d) (hA1:1≤A:=by omega) (hA:A≤1073741824:=by omega):aN prog 103 [(.one (sQ kn):aK),(.one (.int .i64 (d:Int)):aK)] (.ret [.agg [sQ kn, .int .i64 (d:Int)], .one (.bool true)]):=by
 refine cW func103 UH ?_;have hs:=F.hs;have hd:=F.hd;have h2:=F.h2;apply vn bF rfl;refine vs _ rfl ?_ ?_<;>intro h1
 ·exfalso;omega
 apply vn eF rfl;refine vs _ rfl ?_ ?_<;>intro h4
 ·exfalso;omega
 apply vn (aL bP (aH _)) rfl;apply vn (yI) rfl;dsimp only [aC,aD];apply vn (aB (by omega) (by omega)) rfl;apply vn bF rfl;refine vs _ rfl ?_ ?_<;>intro h10
 ·exfalso;omega
 apply vn (aL bP (aH _)) rfl;apply vn eF rfl;dsimp only [aC,aD];refine vs _ rfl ?_ ?_<;>intro h14
 ·exfalso;omega
 apply aA (uK kn false A hk hA1 hA) rfl;rw [F.hr];apply vn eS rfl;refine kG false rfl (fun h=>by cases h) (fun _=>?_);apply vn (aB (by omega) (by omega)) rfl;refine bJ {j:Nat // d+1≤j∧j≤kn.length} (fun g=>[.one (.bool false), .one (.int .i64 (g.1:Int)), .one (.exact (.slice none 0 0)), .one (.int .i64 0)]) (fun g=>kn.length-g.1) ⟨d+1,bA _,by omega⟩ aO.rfl (fun _=>rfl) ?_;rintro ⟨j,hj1,hj2⟩;dsimp only [aC,aD] at hj1 hj2 ⊢;apply vn (aL bP (aH _)) rfl;apply vn bF rfl;refine vs _ rfl ?_ ?_<;>intro h24
 ·apply vn (aG bP (m:=j) (by omega) (Int.toNat_natCast j) (aQ (show j<kn.length by omega))) rfl;apply vn (aR cK (by decide) (by simp) (.inl rfl)) rfl;dsimp only [aC,aD];apply vn (aI (by omega) (by omega)) rfl;apply vn (aI (by omega) (by omega)) rfl;dsimp only [aC,aD];apply vn (aG bP (m:=j-d-1) (by omega) (by omega) (aQ (show j-d-1<kn.length by omega))) rfl;apply vn (aR cK (by decide) (by simp) (.inl rfl)) rfl;apply aA (iB _ _ A A (aF hk _ hA1) (aF hk _ hA1)) rfl;apply vn cB rfl;dsimp only [aC,aD];refine vs _ rfl ?_ ?_<;>intro h33
  ·exact absurd (yE.1 ‹_›) (F.hm j hj1 (by omega))
  apply vn (aB (by omega) (by omega)) rfl;dsimp only [aC,aD];exact aY rfl ⟨⟨j+1,by omega,by omega⟩,aO.rfl,by show kn.length-(j+1)<kn.length-j;omega⟩
 apply vn (aL bP (aH _)) rfl;apply vn (aI (by omega) (by omega)) rfl;apply vn (aI (by omega) (by omega)) rfl;dsimp only [aC,aD];apply vn (aG bP (m:=d) (by omega) (Int.toNat_natCast d) (aQ (show d<kn.length by omega))) rfl;apply vn (aR cK (by decide) (by simp) (.inl rfl)) rfl;apply vn (aB (by omega) (by omega)) rfl;dsimp only [aC,aD];apply vn (aG bP (m:=d+1) (by omega) (by omega) (aQ (show d+1<kn.length by omega))) rfl;apply vn (aR cK (by decide) (by simp) (.inl rfl)) rfl;apply aA (iB _ _ A A (aF hk _ hA1) (aF hk _ hA1)) rfl;apply vn bF rfl;dsimp only [aC,aD];refine vs _ rfl ?_ ?_<;>intro h47
 ·apply vn (aI (by omega) (by omega)) rfl;dsimp only [aC,aD];apply vn (aG bP (m:=kn.length-1-d-1) (by omega) (by omega) (aQ (show kn.length-1-d-1<kn.length by omega))) rfl;apply vn (aR cK (by decide) (by simp) (.inl rfl)) rfl;dsimp only [aC,aD];apply vn (aG bP (m:=kn.length-1-d) (by omega) (by omega) (aQ (show kn.length-1-d<kn.length by omega))) rfl;apply vn (aR cK (by decide) (by simp) (.inl rfl)) rfl;apply aA (iB _ _ A A (aF hk _ hA1) (aF hk _ hA1)) rfl;apply vn bF rfl;dsimp only [aC,aD];rw [decide_eq_true F.hl];exact aJ rfl
 exact absurd F.hf ‹_›
def We (kn:List Rat) (d i:Nat):List Rat:=(List.replicate (kn.length-d-1) 0).set i ((1:Int):Rat)
theorem VW {A:Nat} {kn:List Rat} {d i:Nat} (hA:62≤A):∀ a∈We kn d i,Fit A a:=fun a ha=>by
 rcases List.mem_or_eq_of_mem_set ha with h | rfl
 ·rw [(List.mem_replicate.1 h).2];exact Fit.zero (by omega)
 ·exact (Fit.int (n:=1) (B:=62) (by omega) (by omega)).mono hA
theorem WB (kn:List Rat) (d i A:Nat) (hA1:62≤A) (hk:∀ a∈kn,Fit A a) (F:Fra kn d) (hi:i<kn.length-d-1) (hA:uO A d+A≤10000):aN prog 34 [(.one (sQ kn):aK),(.one (.int .i64 (d:Int)):aK),(.one (.int .i64 (i:Int)):aK)] (.ret [.agg [sQ ((wY kn d (kn.length-1-d)).map (fun t=>kn.getD t 0) ++ [kn.getD (kn.length-1-d) 0]),eQ ((wY kn d (kn.length-1-d)).map (xY kn d (We kn d i)))], .one (.int .i64 0)]):=by
 refine cW func34 YX ?_;have hs:=F.hs;have hd:=F.hd;have h2:=F.h2;apply aA (JS kn d A hk F) rfl;apply vn eS rfl;refine kG false rfl (fun h=>by cases h) (fun _=>?_);apply vn bF rfl;refine vs _ rfl ?_ ?_<;>intro h5
 ·exfalso;omega
 apply aA (pC kn d) rfl;dsimp only [aC,aD];apply vn gZ rfl;refine vs _ rfl ?_ ?_<;>intro h9
 ·exfalso;omega
 apply aA (Xd kn d i) rfl;apply aA (Ql kn (We kn d i) d A hk (VW hA1) (by rw [We,List.length_set,List.length_replicate]) hA) rfl;exact aJ rfl
open Go Go.Proofs Tryz Ord
def aW4:Tr:=aU 129 [(W 0 0),(W 1 0)] [none] [6,7] [28,28] 4 true (.need (.prim [(W 2 0)] none) (.unOp .not 4 (tT 8)) 4 false (.split (.u 3 0) YT (aU 130 [(W 0 0),(W 1 0)] [(some 2)] [11,12] [28,28] 31 true (.ret [(G2 4),(WK 0)]))))
theorem Qw:aM prog f49 (fun _=>none) [.v none, .v none]=aW4:=by kernel_rfl
def aS5:Tr:=aU 67 [(G3 0),(G3 1)] [none] [4,5] [46,46] 3 true (bB .eql 3 6 0 2 0 4 Zn)
theorem Nf:aM prog f109 (fun _=>none) [.v (some 3), .ref 3]=aS5:=by kernel_rfl
def IW:Tr:=.ret [(W 3 0)]
def HB:Tr:=.need (.prim [(W 2 0),(WK (0))] none) (.binOp .gtr 3 (.tmp 6) (.const (I3 (0))) 3) 4 false IW
def GM:Tr:=.need (.call 67 [(.agg [(U 0 0),(U 0 1),(U 0 2)]),(.agg [(U 1 0),(U 1 1),(U 1 2)])] [none]) (.call ⟨.value (.func 67),#[(.tmp 4),(.tmp 5)],#[46,46]⟩) 3 true HB
theorem Pw:aM prog f111 (fun _=>none) [.v (some 3), .ref 3]=GM:=by kernel_rfl
theorem Qv (x y sol:List Rat) (A B:Nat) (hA1:1≤A) (hA:A≤10000000) (hx:∀ a∈x,Fit A a) (hy:∀ a∈y,Fit A a) (hsf:∀ a∈sol,Fit A a) (hs:x.length<549755813000) (h2:2≤x.length) (hxy:y.length=x.length) (hxs:sol.length=x.length) (hgv:LR x y=true) (hT:Mq x.length (x.length+1) B (pU x y)) (hB:1≤B) (hg:∀ k,k≤x.length→gA B k≤1000000000) (hsol:kP (pU x y)=some sol) (hsh:∀ i,i+1<x.length→aN prog 205 [.one (sQ (cvP x y sol i)),qT (-(x.getD i 0))] (.ret [.one (sQ (AW x y sol i))])):aN prog 49 [(.one (sQ x):aK),(.one (sQ y):aK)] (.ret [.agg (Ac x ((List.range (x.length-1)).map (AW x y sol))), .one (.int .i64 0)]):=by
 refine cW func49 Qw ?_;apply aA (NF x y A hx hA1) rfl;rw [hgv];apply vn eS rfl;refine kG false rfl (fun h=>by cases h) (fun _=>?_);apply aA (Rz x y sol A B hA1 hA hx hy hsf hs h2 hxy hxs hT hB hg hsol hsh) rfl;exact aJ rfl
end Go.Sy
