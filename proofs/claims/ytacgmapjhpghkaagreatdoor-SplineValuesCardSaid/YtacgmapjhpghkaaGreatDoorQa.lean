/- Part. -/
import Derived.Test.YtacgmapjhpghkaaGreatDoorPb
set_option linter.all false
namespace Go.Sy
open Go Go.Proofs Tryz Ord
def Vo:Tr:=.ret [(W 7 0)]
def bn9:Tr:=cE .lss 3 11 10 4 0 3 0 0 (.split (.u 6 0) (.need (.callv (.u 1 0) [(W 4 0)] [(some 3)]) (.call ⟨.value (tT 16),#[(tT 17)],#[3]⟩) 46 true (.need (.idx 5 (.u 4 0)) (.indexAddr 98 (tT 14) (tT 15)) 0 false (.need (.strow 5 3 (.u 4 0) 0 [(.u 7 0),(.u 7 1),(.u 7 2)]) (.store 46 (tT 19) (tT 18)) 0 false (bB .add 3 11 1 4 0 3 (.back 0 [lV 9 0, .row 8]))))) (aU 157 [(.one (.c (.sr 3 5)))] [none] [21] [98] 98 true Vo))
def bl9:Tr:=.need (.make [(.slice none 0 0),(.bool false),(.slice none 0 0)] 56 (.u 0 0) (.u 0 0)) (.makeSlice 98 (tT 7) (tT 7)) 98 false (.need (.lenrow 2) (.call ⟨.builtin .len,#[(tT 9)],#[98]⟩) 3 false (.loop 0 [lK 0, .row 2] bn9))
theorem af9:aM prog f159 (fun _=>none) [.v none, .v none]=bl9:=by kernel_rfl
def VT:Tr:=.ret [(G3 5)]
def av0:Tr:=.ret [(.agg [tN,(tE (.bool false)),tN])]
def bo1:Tr:=cL 0 0 6 98 (cE .lss 3 5 7 1 0 2 0 4 (.split (.u 3 0) (dN 0 0 1 0 98 9 10 (dA 4 0 (some 3) 46 11 VT)) av0))
theorem bf4:aM prog f161 (fun _=>none) [.v none, .v none]=bo1:=by kernel_rfl
def bb0:Tr:=aU 161 [(W 1 0),(W 0 0)] [(some 3)] [5,6] [98,3] 46 false (aU 161 [(W 2 0),(W 0 0)] [(some 3)] [8,9] [98,3] 46 true (aU 88 [(G3 3),(G3 4)] [(some 3)] [7,10] [46,46] 46 true VT))
theorem Zj:aM prog f160 (fun _=>none) [.v none, .ref 1, .ref 1]=bb0:=by kernel_rfl
def av9:Tr:=.ret [(W 5 0)]
def bl2:Tr:=cL 0 0 5 98 (cL 1 0 7 98 (.need (.prim [(W 2 0),(W 3 0)] none) (.call ⟨.builtin .max,#[(tT 6),(tT 8)],#[3,3]⟩) 3 false (aU 159 [(W 4 0),(.one (.fM 160 [(.ref 0 [(.u 0 0)]),(.ref 0 [(.u 1 0)])]))] [none] [9,10] [3,165] 98 true av9)))
theorem aG9:aM prog f66 (fun _=>none) [.v none, .v none]=bl2:=by kernel_rfl
def bq3:Tr:=dN 1 0 0 0 98 5 6 (dA 3 0 (some 3) 46 7 (aU 76 [(G3 4),(G3 2)] [(some 3)] [8,9] [46,46] 46 true VT))
theorem QR:aM prog f194 (fun _=>none) [.v none, .ref 1, .ref 3]=bq3:=by kernel_rfl
def VA:Tr:=.ret [(W 3 0)]
def bs5:Tr:=cL 0 0 5 98 (aU 159 [(W 2 0),(.one (.fM 194 [(.ref 0 [(.u 0 0)]),(.ref 0 [(.u 1 0),(.u 1 1),(.u 1 2)])]))] [none] [6,7] [3,165] 98 true VA)
theorem Vx:aM prog f125 (fun _=>none) [.v none, .v (some 3)]=bs5:=by kernel_rfl
def Wr:Tr:=.ret [(.one (.c (.k (.slice none 0 0))))]
def aT3:Tr:=.need (.ldrow 21 (.u 26 0) 0 3 true) (.load 46 (tT 50)) 46 false (aU 76 [(G3 16),(G3 24)] [(some 3)] [52,53] [46,46] 46 true (aU 88 [(G3 27),(G3 28)] [(some 3)] [51,54] [46,46] 46 true (.need (.idx 21 (.u 25 0)) (.indexAddr 98 (tT 42) (tT 45)) 0 false (.need (.strow 21 3 (.u 25 0) 0 [(.u 29 0),(.u 29 1),(.u 29 2)]) (.store 46 (tT 56) (tT 55)) 0 false (bB .add 3 37 1 20 0 3 (.back 1 [lV 31 0, .row 30]))))))
def aO5:Tr:=cE .lss 3 37 36 20 0 19 0 0 (.split (.u 22 0) (dN 1 0 20 0 98 35 37 (dA 23 0 (some 3) 46 40 (cE .add 3 43 44 12 0 20 0 3 (cE .add 3 47 48 12 0 20 0 3 (.need (.idx 21 (.u 26 0)) (.indexAddr 98 (tT 46) (tT 49)) 0 false aT3))))) (bB .add 3 27 1 12 0 3 (.back 0 [lV 23 0, .row 21])))
def aB8:Tr:=dN 0 0 12 0 98 25 27 (dA 15 0 (some 3) 46 30 (aU 23 [(G3 16)] [none] [32] [46] 3 true (bB .eql 3 33 0 17 0 4 (.split (.u 18 0) (bB .add 3 27 1 12 0 3 (.back 0 [lV 19 0, .row 13])) (cL 1 0 35 98 (.loop 1 [lK 0, .row 13] aO5))))))
def aO0:Tr:=.need (.make [(.slice none 0 0),(.bool false),(.slice none 0 0)] 56 (.u 9 0) (.u 9 0)) (.makeSlice 98 (tT 23) (tT 23)) 98 false (cL 0 0 25 98 (.loop 0 [lK 0, .row 10] (cE .lss 3 27 26 12 0 11 0 0 (.split (.u 14 0) aB8 (aU 157 [(.one (.c (.sr 3 13)))] [none] [59] [98] 98 true (.ret [(W 15 0)]))))))
def be5:Tr:=cL 1 0 14 98 (bB .eql 3 15 0 4 0 4 (.split (.u 5 0) Wr (cL 0 0 18 98 (cL 1 0 20 98 (cE .add 3 19 21 6 0 7 0 3 (bB .sub 3 22 1 8 0 3 aO0))))))
def bd5:Tr:=cL 0 0 10 98 (bB .eql 3 11 0 2 0 4 (.split (.u 3 0) Wr be5))
theorem ay2:aM prog f64 (fun _=>none) [.v none, .v none]=bd5:=by kernel_rfl
def bk3:Tr:=.need (.call 63 [(WK 1)] [(some 3)]) (.call ⟨.value (.func 63),#[(.const (I3 1))],#[2]⟩) 46 true (.need (.lit 3 [[(.u 0 0),(.u 0 1),(.u 0 2)],[(.u 1 0),(.u 1 1),(.u 1 2)]]) (.buildSlice 98 2 #[(0,(tT 3)),(1,(tT 4))]) 98 false (.ret [(.one (.c (.sr 3 2)))]))
theorem ao4:aM prog f232 (fun _=>none) [.v (some 3)]=bk3:=by kernel_rfl
def RT:Tr:=.ret [(W 2 0)]
def bg7:Tr:=.need (.lit 3 [[(.u 0 0),(.u 0 1),(.u 0 2)]]) (.buildSlice 98 1 #[(0,(tT 3))]) 98 false (aU 157 [(.one (.c (.sr 3 1)))] [none] [4] [98] 98 true RT)
theorem ME:aM prog f251 (fun _=>none) [.v (some 3)]=bg7:=by kernel_rfl
theorem UI (n:Nat):bG (bG aE.Sub) (List.replicate n [.exact (.slice none 0 0), .bool false, .exact (.slice none 0 0)]) (rQ (List.replicate n 0)):=by
 induction n with
 | zero=>trivial
 | succ n ih=>rw [List.replicate_succ,List.replicate_succ];exact ⟨gX,ih⟩
theorem XG (n:Nat):aK.Sub (.rows (List.replicate n [.exact (.slice none 0 0), .bool false, .exact (.slice none 0 0)])) (.rows (rQ (List.replicate n 0))):=UI n
def part (f:Nat→Rat) (n i:Nat):List Rat:=(List.range i).map f++List.replicate (n-i) 0
theorem Pc {f:Nat→Rat} {n i:Nat} (h:i≤n):(part f n i).length=n:=by simp [part];omega
theorem On {f:Nat→Rat} {n i:Nat} (h:i<n):(part f n i).set i (f i)=part f n (i+1):=by
 rw [part,part,List.range_succ,List.map_append,List.set_append_right _ _ (by simp)];rw [show n-i=(n-(i+1))+1 by omega,List.replicate_succ];simp
theorem Bf (n:Nat) (g:Nat) (caps:List aE) (f:Nat→Rat) (hf:∀ i,i<n→aN prog g (.one (.int .i64 (i:Int))::caps.map .one) (.ret [qT (f i)])) (hn:n<1099511627776):aN prog 159 [(.one (.int .i64 n):aK),(.one (.fM g caps):aK)] (.ret [.one (sQ (trim ((List.range n).map f)))]):=by
 refine cW func159 af9 ?_;refine tC (n:=n) (m:=n) rfl rfl rfl (bA _) (by omega) (by simp only [maxLen];omega) ?_;refine NQ rfl (List.length_replicate) ?_;refine bJ {i:Nat // i≤n} (fun g=>[.one (.int .i64 g.1), .rows (rQ (part f n g.1))]) (fun g=>n-g.1) ⟨0,cM _⟩ ⟨aK.Sub.same,XG n,trivial⟩ (fun _=>rfl) ?_;rintro ⟨i,hi⟩;dsimp only [aC,aD] at hi ⊢;have hpl:=Pc (f:=f) hi;apply vn bF rfl;refine vs _ rfl ?_ ?_<;>intro h4
 ·apply rG (f:=g) (caps:=caps) rfl (hf i (by omega)) rfl;refine cI rfl rfl (by omega) (by first | omega | (rw [List.length_set];omega)) ?_;obtain ⟨q,hq⟩:∃ q,(part f n i)[i]? = some q:=⟨_,bI (by omega)⟩
  refine gL (f:=qC) (d':=f i) rfl rfl (by omega) (Int.toNat_natCast i) hq rfl ?_;rw [On (by omega)];apply vn (aB (by omega) (by omega)) rfl;dsimp only [aC,aD];exact aY rfl ⟨⟨i+1,by omega⟩,aO.rfl,by show n-(i+1)<n-i;omega⟩
 have hin:i=n:=by omega
 subst hin;rw [show part f i i=(List.range i).map f by simp [part]];apply aA (Bh ((List.range i).map f) (by rw [aH,pN];omega)) rfl;exact aJ rfl
theorem au6 (p:List Rat) (i:Nat) (hi:i<4611686018427387904):aN prog 161 [(.one (sQ p):aK),(.one (.int .i64 i):aK)] (.ret [qT (p.getD i 0)]):=by
 refine cW func161 bf4 ?_;apply vn (aL jV (aH _)) rfl;apply vn bF rfl;refine vs _ rfl ?_ ?_<;>intro h2
 ·have hlt:i<p.length:=by omega
  apply vn (aG jV (by omega) (Int.toNat_natCast i) (aQ hlt)) rfl;apply vn (aR cK (by decide) (by simp) (.inl rfl)) rfl;exact aJ rfl
 rw [show p.getD i 0=0 by rw [fC,List.getElem?_eq_none (by omega)];rfl];exact eM ⟨gX,trivial⟩
theorem aF {A:Nat} {l:List Rat} (h:∀ a∈l,Fit A a) (i:Nat) (hA:1≤A:=by omega):Fit A (l.getD i 0):=by
 rw [fC];cases hi:l[i]? with
 | none=>exact Fit.zero hA
 | some a=>exact h a (dE hi)
theorem Yn (p q:List Rat) (i A B:Nat) (hA:1≤A) (hB:1≤B) (hp:∀ a∈p,Fit A a) (hq:∀ b∈q,Fit B b) (h:A+B≤34359738368) (hi:i<4611686018427387904:=by omega):aN prog 160 [(.one (.int .i64 i):aK),(.one (.bL ([sQ p])):aK),(.one (.bL ([sQ q])):aK)] (.ret [qT (p.getD i 0+q.getD i 0)]):=by
 refine ZZ (ins:=[.v (.one (.int .i64 i)), .ref ([sQ p]), .ref ([sQ q])]) func160 Zj ?_;apply aA (au6 p i hi) rfl;apply aA (au6 q i hi) rfl;apply aA (oT _ _ A B (aF hp i hA) (aF hq i hB) h) rfl;exact aJ rfl
def qX (p q:List Rat):List Rat:=trim ((List.range (max p.length q.length)).map fun i=>p.getD i 0+q.getD i 0)
theorem Ls (p q:List Rat) (A B:Nat) (hA:1≤A) (hB:1≤B) (hp:∀ a∈p,Fit A a) (hq:∀ b∈q,Fit B b) (h:A+B≤34359738368) (hpl:p.length<1099511627776) (hql:q.length<1099511627776):aN prog 66 [(.one (sQ p):aK),(.one (sQ q):aK)] (.ret [.one (sQ (qX p q))]):=by
 refine cW func66 aG9 ?_;apply vn (aL jV (aH _)) rfl;apply vn (aL jV (aH _)) rfl;apply vn (Zy (k:=.i64) (a:=(p.length:Int)) (b:=(q.length:Int))) rfl;rw [show max (p.length:Int) (q.length:Int)=((max p.length q.length:Nat):Int) by omega];apply aA (Bf (max p.length q.length) 160 [.bL [sQ p], .bL [sQ q]] (fun i=>p.getD i 0+q.getD i 0) (fun i hi=>Yn p q i A B hA hB hp hq h) (by omega)) rfl;exact aJ rfl
def jO (p q:List Rat):List Rat:=if p = []∨q = [] then [] else trim (mulL p q p.length)
set_option maxHeartbeats 1000000 in
theorem Yz (p q:List Rat) (D E S T B:Nat) (h0:D≠0) (h1:E≠0) (hp:∀ a∈p,Bd D S a) (hq:∀ b∈q,Bd E T b) (hB:B≤8589934592) (hX:D*E*((p.length+1)*((S+1)*(T+1)))<2^B) (hpl:p.length≤549755813888:=by omega) (hql:q.length≤549755813888:=by omega):aN prog 64 [(.one (sQ p):aK),(.one (sQ q):aK)] (.ret [.one (sQ (jO p q))]):=by
 refine cW func64 ay2 ?_;obtain ⟨f1,f2,f3,f4⟩:=De h0 h1 hX;apply vn (aL jV (aH _)) rfl;apply vn cB rfl;refine vs _ rfl ?_ ?_<;>intro h2
 ·have hp0:p = []:=List.eq_nil_of_length_eq_zero (by omega);rw [jO,if_pos (.inl hp0)];exact eM ⟨aE.Sub.nil,trivial⟩
 apply vn (aL jV (aH _)) rfl;apply vn cB rfl;dsimp only [aC,aD];refine vs _ rfl ?_ ?_<;>intro h6
 ·have hq0:q = []:=List.eq_nil_of_length_eq_zero (by omega);rw [jO,if_pos (.inr hq0)];exact eM ⟨aE.Sub.nil,trivial⟩
 have hp0:0<p.length:=by omega
 have hq0:0<q.length:=by omega
 rw [jO,if_neg (by rintro (h | h)
                   ·rw [h] at hp0;simp at hp0
                   ·rw [h] at hq0;simp at hq0)]
 obtain ⟨n,hn⟩:∃ n:Nat,(p.length:Int)+(q.length:Int)-1=(n:Int):=⟨p.length+q.length-1,by omega⟩
 have hn':p.length+q.length-1=n:=by omega
 apply vn (aL jV (aH _)) rfl;apply vn (aL jV (aH _)) rfl;apply vn (aB (by omega) (by omega)) rfl;apply vn (aI (by omega) (by omega)) rfl;rw [hn];dsimp only [aC,aD];refine tC (n:=n) (m:=n) rfl rfl rfl (bA _) (by omega) (by simp only [maxLen];omega) ?_;apply vn (aL jV (aH _)) rfl;dsimp only [aC,aD];refine bJ {i:Nat // i≤p.length} (fun g=>[.one (.int .i64 g.1), .rows (rQ (mulL p q g.1))]) (fun g=>p.length-g.1) ⟨0,cM _⟩ ⟨aK.Sub.same,by show aK.Sub _ (.rows (rQ (mulL p q 0)));rw [mulL,hn'];exact XG n,trivial⟩ (fun _=>rfl) ?_;rintro ⟨i,hi⟩;dsimp only [aC,aD] at hi ⊢;apply vn bF rfl;refine vs _ rfl ?_ ?_<;>intro h16
 ·apply vn (aG jV (by omega) (Int.toNat_natCast i) (aQ (show i<p.length by omega))) rfl;apply vn (aR cK (by decide) (by simp) (.inl rfl)) rfl;apply aA (gW _) rfl;dsimp only [aC,aD];apply vn cB rfl;refine vs _ rfl ?_ ?_<;>intro h21
  ·have hz:p.getD i 0=0:=sign_zero.1 h21;apply vn (aB (by omega) (by omega)) rfl;dsimp only [aC,aD];exact aY rfl ⟨⟨i+1,by omega⟩,(by dsimp only;rw [mulL,if_pos hz];exact aO.rfl),by show p.length-(i+1)<p.length-i;omega⟩
  have hz:¬ p.getD i 0=0:=fun h=>h21 (sign_zero.2 h);have ho:=vP h0 h1 hp hq i;have hi2:i<p.length:=by omega
  apply vn (aL jV (aH _)) rfl;refine bJ {k:Nat // k≤q.length} (fun g=>[.one (.int .i64 g.1), .rows (rQ (gH (p.getD i 0) q i (mulL p q i) g.1))]) (fun g=>q.length-g.1) ⟨0,cM _⟩ aO.rfl (fun _=>rfl) ?_;rintro ⟨k,hk⟩;dsimp only [aC,aD] at hk ⊢;apply vn bF rfl;refine vs _ rfl ?_ ?_<;>intro h27
  ·have hk2:k<q.length:=by omega
   have hrow:=Dy h0 h1 (kW hp i) hq ho k (i:=i);have hrl:(gH (p.getD i 0) q i (mulL p q i) k).length=n:=by rw [kH,gI,hn']
   have hget:=aQ (l:=gH (p.getD i 0) q i (mulL p q i) k) (i:=i+k);have hfo:Fit B ((gH (p.getD i 0) q i (mulL p q i) k).getD (i+k) 0):=f3 _ i hi2 (hrow _ (dE hget));apply vn (aG jV (by omega) (Int.toNat_natCast k) (aQ hk2)) rfl;apply vn (aR cK (by decide) (by simp) (.inl rfl)) rfl;apply vn (aB (by omega) (by omega)) rfl;dsimp only [aC,aD];apply vn (aB (by omega) (by omega)) rfl;refine cI rfl rfl (by omega) (by omega) ?_;refine RG rfl rfl (by omega) (show ((i:Int)+(k:Int)).toNat=i+k by omega) hget (.inl rfl) rfl ?_;dsimp only [aC,aD,Vk,List.drop,List.take];apply aA (iD _ _ B B (f1 _ (kW hp i)) (f2 _ (kW hq k))) rfl;apply aA (oT _ _ B B hfo (f4 _ ((kW hp i).mul h0 h1 (kW hq k)))) rfl;refine cI rfl rfl (by omega) (by omega) ?_;refine gL (f:=qC) (d':=(gH (p.getD i 0) q i (mulL p q i) k).getD (i+k) 0+p.getD i 0*q.getD k 0) rfl rfl (by omega) (show ((i:Int)+(k:Int)).toNat=i+k by omega) hget rfl ?_;apply vn (aB (by omega) (by omega)) rfl;dsimp only [aC,aD];exact aY rfl ⟨⟨k+1,by omega⟩,aO.rfl,by show q.length-(k+1)<q.length-k;omega⟩
  apply vn (aB (by omega) (by omega)) rfl
  exact aY rfl ⟨⟨i+1,by omega⟩,(by
   dsimp only;rw [mulL,if_neg hz,show q.length=k by omega];exact aO.rfl),by show p.length-(i+1)<p.length-i;omega⟩
 rw [show p.length=i by omega];apply aA (Bh _ (by rw [gI];omega)) rfl;exact aJ rfl
theorem aq9 (c:Rat):aN prog 232 [(qT c:aK)] (.ret [.one (sQ [c,1])]):=by
 refine cW func232 ao4 ?_;apply aA (Bz 1) rfl;apply dJ rfl;exact aJ rfl
theorem NP (c:Rat):aN prog 251 [(qT c:aK)] (.ret [.one (sQ (trim [c]))]):=by
 refine cW func251 ME ?_;apply dJ rfl;apply aA (Bh [c] (by simp)) rfl;exact aJ rfl
open Go Go.Proofs Tryz Ord
def au3:Tr:=.ret [(W 4 0)]
def bi0:Tr:=.split (.u 5 0) (dN 0 0 4 0 29 12 13 (dA 6 0 none 98 14 (.need (.callv (.u 1 0) [(W 7 0)] [none]) (.call ⟨.value (tT 11),#[(tT 15)],#[98]⟩) 4 true (.split (.u 8 0) au3 (bB .add 3 8 1 4 0 3 (.back 0 [lV 3 0,lV 9 0])))))) (.ret [(WK (-1))])
def bh2:Tr:=cL 0 0 6 29 (.loop 0 [lK 0,lK 0] (cE .lss 3 8 7 4 0 2 0 0 bi0))
theorem VX:aM prog f179 (fun _=>none) [.v none, .v none]=bh2:=by kernel_rfl
def bq6:Tr:=aU 179 [(W 0 0),(W 1 0)] [none] [5,6] [29,143] 3 true (bB .geq 3 7 0 2 0 4 VA)
theorem MH:aM prog f81 (fun _=>none) [.v none, .v none]=bq6:=by kernel_rfl
def bd2:Tr:=dN 0 0 4 0 102 17 18 (dA 15 0 (some 4) 51 19 (aU 77 [(G4 16),(.agg [(U 9 0),(U 10 0),(U 11 0),(U 12 0)])] [(some 4)] [20,21] [51,51] 51 true (aU 99 [(.agg [(U 5 0),(U 6 0),(U 7 0),(U 8 0)]),(G4 17)] [(some 4)] [16,22] [51,51] 51 true (aU 77 [(.agg [(U 9 0),(U 10 0),(U 11 0),(U 12 0)]),(G4 1)] [(some 4)] [24,25] [51,51] 51 true (bB .add 3 14 1 4 0 3 (.back 0 [lV 20 0,lV 18 0,lV 18 1,lV 18 2,lV 18 3,lV 19 0,lV 19 1,lV 19 2,lV 19 3]))))))
def bd1:Tr:=.need (.call 39 [(WK 0)] [(some 4)]) (.call ⟨.value (.func 39),#[(.const (I3 0))],#[2]⟩) 51 true (.need (.call 39 [(WK 1)] [(some 4)]) (.call ⟨.value (.func 39),#[(.const (I3 1))],#[2]⟩) 51 true (.loop 0 [lK 0,lV 2 0,lV 2 1,lV 2 2,lV 2 3,lV 3 0,lV 3 1,lV 3 2,lV 3 3] (cL 0 0 11 102 (cE .lss 3 10 12 4 0 13 0 4 (.split (.u 14 0) bd2 (.ret [(.agg [(U 5 0),(U 6 0),(U 7 0),(U 8 0)])]))))))
theorem ah3:aM prog f97 (fun _=>none) [.v none, .v (some 4)]=bd1:=by kernel_rfl
def zX:Tr:=.ret [(tF false)]
def aE8:Tr:=dN 1 0 6 0 32 21 22 (dA 11 0 (some 4) 51 23 (aU 29 [(G3 10),(G4 12)] [none] [20,24] [46,51] 4 true (.need (.prim [(W 13 0)] none) (.unOp .not 4 (tT 25)) 4 false (.split (.u 14 0) zX (bB .add 3 15 1 6 0 3 (.back 0 [lV 5 0,lV 15 0]))))))
def RM:Tr:=.ret [(tF true)]
def bf7:Tr:=.split (.u 4 0) zX (.loop 0 [(.w (.one (.c (.k (.bool false))))),lK 0] (cL 0 0 12 28 (cE .lss 3 11 13 6 0 7 0 4 (.split (.u 8 0) (dN 0 0 6 0 28 17 18 (dA 9 0 (some 3) 46 19 aE8)) RM))))
def br4:Tr:=cL 0 0 6 28 (cL 1 0 8 32 (cE .neq 3 7 9 2 0 3 0 4 bf7))
theorem YD:aM prog f43 (fun _=>none) [.v none, .v none]=br4:=by kernel_rfl
abbrev cQ (p:List Rat):List aE:=[sQ p]
abbrev cR (p:List RQ):List aE:=[sR p]
abbrev eQ (e:List (List Rat)):aE:=.slice 1 (e.map cQ)
abbrev eR (e:List (List RQ)):aE:=.slice 1 (e.map cR)
def kO {α:Type} (c:α→Bool):List α→Nat→Int
 | [],_=>-1
 | x::xs,i=>if c x then (i:Int) else kO c xs (i+1)
theorem OB {α:Type} (c:α→Bool):∀ (l:List α) (i:Nat),decide (0≤kO c l i)=l.any c
 | [],i=>rfl
 | x::xs,i=>by
   simp only [kO,List.any_cons];split
   ·rename_i h;rw [h];simp
   ·rename_i h;rw [OB c xs (i+1)];simp [h]
theorem YW (e:List (List Rat)) (g:Nat) (c:List Rat→Bool) (hc:∀ p∈e,aN prog g [.one (sQ p)] (.ret [.one (.bool (c p))])) (hs:e.length<1099511627776):aN prog 179 [(.one (eQ e):aK),(.one (.fM g []):aK)] (.ret [.one (.int .i64 (kO c e 0))]):=by
 refine cW func179 VX ?_;apply vn (aL jT (aH _)) rfl;refine bJ {i:Nat // i≤e.length∧kO c e 0=kO c (e.drop i) i} (fun g=>[.one (.int .i64 0), .one (.int .i64 g.1)]) (fun g=>e.length-g.1) ⟨0,cM _,rfl⟩ aO.rfl (fun _=>rfl) ?_;rintro ⟨i,hi,hf⟩;dsimp only [aC,aD] at hi hf ⊢;apply vn bF rfl;refine vs _ rfl ?_ ?_<;>intro h3
 ·obtain ⟨p,hp⟩:∃ p,e[i]? = some p:=⟨_,bI (by omega)⟩
  have hdrop:e.drop i=p::e.drop (i+1):=by
   rw [List.drop_eq_getElem_cons (by omega),(dR.1 hp).2]
  rw [hdrop,kO] at hf;apply vn (aG jT (by omega) (by omega) hp) rfl;apply vn (bD AA) rfl;apply rG (f:=g) (caps:=[]) rfl (hc p (dE hp)) rfl;dsimp only [aC,aD];refine kG (c p) rfl (fun h7=>?_) (fun h7=>?_)
  ·rw [hf,if_pos h7];exact aJ rfl
  apply vn (aB (by omega) (by omega)) rfl;dsimp only [aC,aD];exact aY rfl ⟨⟨i+1,by omega,by rw [hf,if_neg (by simp [h7])]⟩,aO.rfl,by show e.length-(i+1)<e.length-i;omega⟩
 rw [hf,List.drop_eq_nil_of_le (by omega),kO];exact aJ rfl
theorem zL (e:List (List Rat)) (g:Nat) (c:List Rat→Bool) (hc:∀ p∈e,aN prog g [.one (sQ p)] (.ret [.one (.bool (c p))])) (hs:e.length<1099511627776:=by omega):aN prog 81 [(.one (eQ e):aK),(.one (.fM g []):aK)] (.ret [.one (.bool (e.any c))]):=by
 refine cW func81 MH ?_;apply aA (YW e g c hc hs) rfl;apply vn gZ rfl;dsimp only [aC,aD];rw [←OB c e 0];exact aJ rfl
theorem Rd (ps:List Rat) (a c:Rat):dL (ps ++ [a]) c=dL ps c+a*c^ps.length:=by
 unfold dL;rw [List.foldr_append]
 have key:∀ (ps:List Rat) (s:Rat),List.foldr (fun a v=>v*c+a) s ps=List.foldr (fun a v=>v*c+a) 0 ps+s*c^ps.length:=by
  intro ps
  induction ps with
  | nil=>intro s;simp only [List.foldr_nil,List.length_nil,Rat.pow_zero];grind
  | cons x ps ih=>intro s;simp only [List.foldr_cons,List.length_cons,Rat.pow_succ];rw [ih s];grind
 rw [key]
 congr 1
 simp only [List.foldr_cons,List.foldr_nil]
 grind
theorem iX {B:Nat} (hB:1≤B) {c:Rat} (hc:Fit B c):∀ ps:List Rat,(∀ q∈ps,Fit B q)→Fit (ps.length*(2*B+1)+1) (dL ps c)
 | [],_=>Fit.zero (by omega)
 | a::ps,h=>by
   have ih:=iX hB hc ps (fun q hq=>h q (List.mem_cons_of_mem _ hq));have:=(ih.mul hc).add (h a List.mem_cons_self);refine this.mono ?_;rw [List.length_cons,Nat.add_mul];omega
theorem pG (ps:List RQ) (c:RQ) (B:Nat) (hp:∀ q∈ps,Fit B q.q) (hc:Fit B c.q) (hB:1≤B:=by omega) (hl:ps.length*(2*B+2)≤1073741824:=by omega) (hs:ps.length≤1073741824:=by omega) (hB2:B≤1048576:=by omega):aN prog 97 [(.one (sR ps):aK),(oK c:aK)] (.ret [oK (.of (dL (ps.map RQ.q) c.q))]):=by
 refine cW func97 ah3 ?_
 have hmap:∀ q∈ps.map RQ.q,Fit B q:=fun q hq=>by
  obtain ⟨a,ha,rfl⟩:=eB.1 hq;exact hp a ha
 apply aA (nO 0) rfl;apply aA (nO 1) rfl
 refine bJ {i:Nat // i≤ps.length} (fun g=>[.one (.int .i64 g.1), .one (.int .i64 (dL ((ps.map RQ.q).take g.1) c.q).num.sign), .one (bT (dL ((ps.map RQ.q).take g.1) c.q).num.natAbs), .one (.int .i64 1), .one (bT (dL ((ps.map RQ.q).take g.1) c.q).den), .one (.int .i64 (c.q^g.1).num.sign), .one (bT (c.q^g.1).num.natAbs), .one (.int .i64 1), .one (bT (c.q^g.1).den)]) (fun g=>ps.length-g.1) ⟨0,cM _⟩ (by
  simp only [List.take_zero,Rat.pow_zero];exact aO.rfl) (fun _=>rfl) ?_
 rintro ⟨i,hi⟩;dsimp only [aC,aD] at hi ⊢;apply vn (aL gE (aH _)) rfl;apply vn bF rfl;refine vs _ rfl ?_ ?_<;>intro h5
 ·obtain ⟨a,ha⟩:∃ a,ps[i]? = some a:=⟨_,bI (by omega)⟩
  have hma:(ps.map RQ.q)[i]? = some a.q:=by rw [dP,ha];rfl
  have hfa:=hp a (dE ha);have hfi:=hc.pow hB i;have hlen:((ps.map RQ.q).take i).length=i:=by simp;omega
  have hfe:=iX hB hc ((ps.map RQ.q).take i) (fun q hq=>hmap q (List.mem_of_mem_take hq));rw [hlen] at hfe;have hib:i*(2*B+2)≤1073741824:=Nat.le_trans (Nat.mul_le_mul_right _ hi) hl;have hib2:i*(2*B+2)=i*(2*B+1)+i:=by rw [show 2*B+2=(2*B+1)+1 by omega,Nat.mul_add i (2*B+1) 1,Nat.mul_one]
  have hib3:B*i≤i*(2*B+1):=by rw [Nat.mul_comm];exact Nat.mul_le_mul_left _ (by omega)
  have hsn:dL ((ps.map RQ.q).take (i+1)) c.q=dL ((ps.map RQ.q).take i) c.q+a.q*c.q^i:=by
   rw [List.take_add_one,hma];show dL (_ ++ [a.q]) c.q=_;rw [Rd,hlen]
  apply vn (aG gE (by omega) (by omega) ha) rfl;apply vn (aR mG (by decide) (by simp) (.inl rfl)) rfl;dsimp only [aC,aD];have hm:=Ed a (.of (c.q^i)) _ _ hfa hfi;apply aA hm rfl;dsimp only [aC,aD];have hs1:=yC (.of (dL ((ps.map RQ.q).take i) c.q)) (.of (a.q*(RQ.of (c.q^i)).q)) _ _ hfe (hfa.mul hfi);rw [RQ.lW,RQ.lW,RQ.lW,←hsn] at hs1;apply aA hs1 rfl;dsimp only [aC,aD];have hm2:=Ed (.of (c.q^i)) c _ _ hfi hc;rw [RQ.lW,←Rat.pow_succ] at hm2;apply aA hm2 rfl;apply vn (aB (by omega) (by omega)) rfl;dsimp only [aC,aD];exact aY rfl ⟨⟨i+1,by omega⟩,aO.rfl,by show ps.length-(i+1)<ps.length-i;omega⟩
 rw [show i=ps.length by omega];have e:(ps.map RQ.q).take ps.length=ps.map RQ.q:=List.take_of_length_le (by simp);rw [e];exact aJ rfl
def fH (e:List (List RQ)):List (List Rat):=e.map fun p=>p.map RQ.q
theorem vU {e:List (List RQ)} {i:Nat} {p:List RQ} (h:e[i]? = some p):(fH e)[i]? = some (p.map RQ.q):=by rw [fH,dP,h];rfl
theorem fE (e:List (List RQ)):(fH e).length=e.length:=aH _
theorem av6 (p:List RQ):kN Vj p=kN zr (p.map RQ.q):=(Ez (z:=zr) RQ.q p).symm
theorem Wc {α β:Type} {f:β→α} {a:List α} {b:List β} (hl:a.length=b.length) (h:∀ (i:Nat) (x:α) (y:β),a[i]? = some x→b[i]? = some y→x=f y):a=b.map f:=by
 apply List.ext_getElem?;intro i;rw [dP];by_cases hi:i<a.length
 ·have hx:a[i]? = some a[i]:=bI hi;have hy:b[i]? = some (b[i]'(by omega)):=bI (by omega);rw [hx,hy,h i _ _ hx hy];rfl
 ·rw [List.getElem?_eq_none_iff.2 (by omega),List.getElem?_eq_none_iff.2 (by omega)];rfl
theorem uW (a:List Rat) (b:List RQ) (B:Nat) (ha:∀ q∈a,Fit B q) (hb:∀ q∈b,Fit B q.q) (hB:B≤34359738360) (hs2:b.length<1099511627776) (hs:a.length<1099511627776:=by omega):aN prog 43 [(.one (sQ a):aK),(.one (sR b):aK)] (.ret [.one (.bool (decide (a=b.map RQ.q)))]):=by
 refine cW func43 YD ?_;apply vn (aL bP (aH _)) rfl;apply vn (aL pY (aH _)) rfl;apply vn dS rfl;refine vs _ rfl ?_ ?_<;>intro h3
 ·rw [decide_eq_false (fun e=>by have:=congrArg List.length e;rw [aH] at this;omega)];exact aJ rfl
 have hlen:a.length=b.length:=by omega
 refine bJ {i:Nat // i≤a.length∧∀ j x y,j<i→a[j]? = some x→b[j]? = some y→x=y.q} (fun g=>[.one (.bool false), .one (.int .i64 g.1)]) (fun g=>a.length-g.1) ⟨0,cM _,fun j x y h=>by omega⟩ aO.rfl (fun _=>rfl) ?_;rintro ⟨i,hi,he⟩;dsimp only [aC,aD] at hi he ⊢;apply vn (aL bP (aH _)) rfl;apply vn bF rfl;refine vs _ rfl ?_ ?_<;>intro h8
 ·obtain ⟨x,hx⟩:∃ x,a[i]? = some x:=⟨_,bI (by omega)⟩
  obtain ⟨y,hy⟩:∃ y,b[i]? = some y:=⟨_,bI (by omega)⟩
  apply vn (aG bP (by omega) (by omega) hx) rfl;apply vn (aR cK (by decide) (by simp) (.inl rfl)) rfl;dsimp only [aC,aD];apply vn (aG pY (by omega) (by omega) hy) rfl;apply vn (aR mG (by decide) (by simp) (.inl rfl)) rfl;apply aA (Lh x y B (ha x (dE hx)) (hb y (dE hy)) hB) rfl;apply vn uQ rfl;dsimp only [aC,aD];refine vs _ rfl ?_ ?_<;>intro h15
  ·rw [decide_eq_false (fun e=>h15 (by
    rw [e,dP,hy] at hx
    simpa using hx.symm))];exact aJ rfl
  apply vn (aB (by omega) (by omega)) rfl
  exact aY rfl ⟨⟨i+1,by omega,fun j x' y' hj hx' hy'=>by
   rcases Nat.lt_or_ge j i with h | h
   ·exact he j x' y' h hx' hy'
   ·rw [show j=i by omega] at hx' hy';rw [hx] at hx';rw [hy] at hy';simp only [aP] at hx' hy';subst hx' hy';exact Decidable.of_not_not h15⟩,aO.rfl,by show a.length-(i+1)<a.length-i;omega⟩
 rw [decide_eq_true (Wc hlen fun j x y hx hy=>he j x y (by have:=(dR.1 hx).1;omega) hx hy)];exact aJ rfl
open Go Go.Proofs Tryz Ord
def at4:Tr:=aU 165 [(G3 0),(G3 1)] [(some 3),none] [8,9] [46,46] 55 false (.ret [(G3 2)])
theorem al7:aM prog f181 (fun _=>none) [.v (some 3), .v (some 3)]=at4:=by kernel_rfl
def at7:Tr:=.ret [(G3 7)]
def bc7:Tr:=bB .add 3 5 1 0 0 3 (dN 1 0 2 0 98 4 6 (dA 3 0 (some 3) 46 7 (bB .add 3 9 1 0 0 3 (aU 63 [(W 5 0)] [(some 3)] [10] [2] 46 true (aU 76 [(G3 4),(G3 6)] [(some 3)] [8,11] [46,46] 46 true at7)))))
theorem OP:aM prog f193 (fun _=>none) [.v none, .ref 1]=bc7:=by kernel_rfl
def bg3:Tr:=cL 0 0 3 98 (bB .sub 3 4 1 1 0 3 (.need (.prim [(W 2 0),(WK 0)] none) (.call ⟨.builtin .max,#[(tT 5),(.const (I3 0))],#[3,3]⟩) 3 false (aU 159 [(W 3 0),(.one (.fM 193 [(.ref 0 [(.u 0 0)])]))] [none] [6,7] [3,165] 98 true au3)))
theorem TO:aM prog f124 (fun _=>none) [.v none]=bg3:=by kernel_rfl
def bh5:Tr:=bB .eql 3 4 0 0 0 4 (.split (.u 2 0) av0 (bB .sub 3 8 1 0 0 3 (dN 1 0 3 0 98 7 9 (dA 4 0 (some 3) 46 10 (aU 63 [(W 0 0)] [(some 3)] [12] [2] 46 true (aU 181 [(G3 5),(G3 6)] [(some 3)] [11,13] [46,46] 46 true at7))))))
theorem HM:aM prog f180 (fun _=>none) [.v none, .ref 1]=bh5:=by kernel_rfl
def bh6:Tr:=cL 0 0 3 98 (bB .add 3 4 1 1 0 3 (aU 159 [(W 2 0),(.one (.fM 180 [(.ref 0 [(.u 0 0)])]))] [none] [5,6] [3,165] 98 true VA))
theorem Nn:aM prog f85 (fun _=>none) [.v none]=bh6:=by kernel_rfl
def YY:Tr:=.back 0 [lV 11 0, .row 10]
def be6:Tr:=dN 0 0 1 0 102 12 13 (dA 5 0 (some 4) 51 14 (aU 39 [(W 1 0)] [(some 4)] [16] [2] 51 false (aU 77 [(G4 6),(G4 7)] [(some 4)] [15,17] [51,51] 51 true (.need (.lit 4 [[(.u 8 0),(.u 8 1),(.u 8 2),(.u 8 3)]]) (.buildSlice 102 1 #[(0,(tT 18))]) 102 false (.need (.app 4 64 (some 2) none (some 9)) (.call ⟨.builtin .append,#[(tT 11),(tT 19)],#[102,102]⟩) 102 false (bB .add 3 9 1 1 0 3 YY))))))
def bp6:Tr:=.loop 0 [lK 1, .nilrow] (cL 0 0 6 102 (cE .lss 3 5 7 1 0 3 0 4 (.split (.u 4 0) be6 (aU 126 [(.one (.c (.sr 4 2)))] [none] [21] [102] 102 true av9))))
theorem Uu:aM prog f92 (fun _=>none) [.v none]=bp6:=by kernel_rfl
def bd3:Tr:=bB .add 3 18 1 3 0 3 (aU 39 [(W 9 0)] [(some 4)] [19] [2] 51 false (aU 151 [(G4 8),(G4 10)] [(some 4)] [17,20] [51,51] 51 true (.need (.lit 4 [[(.u 11 0),(.u 11 1),(.u 11 2),(.u 11 3)]]) (.buildSlice 102 1 #[(0,(tT 21))]) 102 false (.need (.app 4 64 (some 4) none (some 12)) (.call ⟨.builtin .append,#[(tT 13),(tT 22)],#[102,102]⟩) 102 false (bB .add 3 11 1 3 0 3 (.back 0 [lV 14 0, .row 13]))))))
def bb2:Tr:=.need (.lit 4 [[(.u 1 0),(.u 1 1),(.u 1 2),(.u 1 3)]]) (.buildSlice 102 1 #[(0,(tT 5))]) 102 false (.loop 0 [lK 0, .row 2] (cL 0 0 8 102 (cE .lss 3 7 9 3 0 5 0 4 (.split (.u 6 0) (dN 0 0 3 0 102 14 15 (dA 7 0 (some 4) 51 16 bd3)) (aU 126 [(.one (.c (.sr 4 4)))] [none] [24] [102] 102 true Vo)))))
def aZ6:Tr:=.need (.call 39 [(WK 0)] [(some 4)]) (.call ⟨.value (.func 39),#[(.const (I3 0))],#[2]⟩) 51 true bb2
theorem NU:aM prog f93 (fun _=>none) [.v none]=aZ6:=by kernel_rfl
def bi1:Tr:=.split (.u 5 0) (dN 0 0 2 0 102 14 15 (dA 6 0 (some 4) 51 16 (aU 77 [(G4 7),(G4 1)] [(some 4)] [17,18] [51,51] 51 true (.need (.lit 4 [[(.u 8 0),(.u 8 1),(.u 8 2),(.u 8 3)]]) (.buildSlice 102 1 #[(0,(tT 19))]) 102 false (.need (.app 4 64 (some 3) none (some 9)) (.call ⟨.builtin .append,#[(tT 13),(tT 20)],#[102,102]⟩) 102 false (bB .add 3 11 1 2 0 3 YY)))))) (aU 126 [(.one (.c (.sr 4 3)))] [none] [22] [102] 102 true (.ret [(W 6 0)]))
def be1:Tr:=.loop 0 [lK 0, .nilrow] (cL 0 0 8 102 (cE .lss 3 7 9 2 0 4 0 4 bi1))
theorem XY:aM prog f115 (fun _=>none) [.v none, .v (some 4)]=be1:=by kernel_rfl
def bp7:Tr:=.need (.lit 4 [[(.u 0 0),(.u 0 1),(.u 0 2),(.u 0 3)]]) (.buildSlice 102 1 #[(0,(tT 3))]) 102 false (aU 126 [(.one (.c (.sr 4 1)))] [none] [4] [102] 102 true RT)
theorem Pe:aM prog f95 (fun _=>none) [.v (some 4)]=bp7:=by kernel_rfl
def ZR (a b:Rat):Rat:=if b=0 then 0 else a/b
theorem ab5 (a b:Rat) (A B:Nat) (ha:Fit A a) (hb:Fit B b) (h:A+B≤34359738368:=by omega):aN prog 181 [(qT a:aK),(qT b:aK)] (.ret [qT (ZR a b)]):=by
 refine cW func181 al7 ?_;apply aA (Rx a b A B ha hb h) rfl;exact aJ rfl
def dvI (p:List Rat) (i:Nat):Rat:=p.getD (i+1) 0*(((i:Int)+1:Int):Rat)
def TW (p:List Rat):List Rat:=trim ((List.range (p.length-1)).map (dvI p))
theorem OQ (p:List Rat) (i A:Nat) (hA1:1≤A) (hl:p.length<1099511627776) (hp:∀ a∈p,Fit A a) (hA:A≤34359738000) (hi:i+1<p.length:=by omega):aN prog 193 [(.one (.int .i64 i):aK),(.one (.bL ([sQ p])):aK)] (.ret [qT (dvI p i)]):=by
 refine ZZ (ins:=[.v (.one (.int .i64 i)), .ref ([sQ p])]) func193 OP ?_;apply vn (aB (by omega) (by omega)) rfl;dsimp only [aC,aD];apply vn (aG jV (by omega) (show ((i:Int)+1).toNat=i+1 by omega) (aQ hi)) rfl;apply vn (aR cK (by decide) (by simp) (.inl rfl)) rfl;apply vn (aB (by omega) (by omega)) rfl;apply aA (Bz ((i:Int)+1)) rfl;dsimp only [aC,aD];apply aA (iD (p.getD (i+1) 0) (((i:Int)+1:Int):Rat) A 62 (aF hp (i+1) hA1) (Fit.int (by omega) (by omega))) rfl;exact aJ rfl
theorem Ud (p:List Rat) (A:Nat) (hA1:1≤A) (hl:p.length<1099511627776) (hp:∀ a∈p,Fit A a) (hA:A≤34359738000:=by omega):aN prog 124 [(.one (sQ p):aK)] (.ret [.one (sQ (TW p))]):=by
 refine cW func124 TO ?_;apply vn (aL jV (aH _)) rfl;apply vn (aI (by omega) (by omega)) rfl;apply vn (Zy (k:=.i64) (a:=(p.length:Int)-1) (b:=0)) rfl;rw [show max ((p.length:Int)-1) 0=((p.length-1:Nat):Int) by omega];apply aA (Bf (p.length-1) 193 [.bL [sQ p]] (dvI p) (fun i hi=>OQ p i A hA1 hl hp hA) (by omega)) rfl;exact aJ rfl
def igI (p:List Rat) (i:Nat):Rat:=if i=0 then 0 else ZR (p.getD (i-1) 0) ((i:Int):Rat)
def AR (p:List Rat):List Rat:=trim ((List.range (p.length+1)).map (igI p))
theorem Ic (p:List Rat) (i A:Nat) (hA1:1≤A) (hi:i<p.length+1) (hp:∀ a∈p,Fit A a) (hA:A≤34359738000) (hl:p.length<1099511627776:=by omega):aN prog 180 [(.one (.int .i64 i):aK),(.one (.bL ([sQ p])):aK)] (.ret [qT (igI p i)]):=by
 refine ZZ (ins:=[.v (.one (.int .i64 i)), .ref ([sQ p])]) func180 HM ?_;apply vn cB rfl;refine vs _ rfl ?_ ?_<;>intro h1
 ·rw [igI,if_pos (by omega)];exact eM ⟨gX,trivial⟩
 apply vn (aI (by omega) (by omega)) rfl;dsimp only [aC,aD];apply vn (aG jV (m:=i-1) (by omega) (by omega) (aQ (show i-1<p.length by omega))) rfl;apply vn (aR cK (by decide) (by simp) (.inl rfl)) rfl;apply aA (Bz (i:Int)) rfl;apply aA (ab5 (p.getD (i-1) 0) ((i:Int):Rat) A 62 (aF hp (i-1) hA1) (Fit.int (by omega) (by omega))) rfl;dsimp only [aC,aD];rw [igI,if_neg (by omega)];exact aJ rfl
theorem zE (p:List Rat) (A:Nat) (hp:∀ a∈p,Fit A a) (hA1:1≤A:=by omega) (hl:p.length<1099511627000:=by omega) (hA:A≤34359738000:=by omega):aN prog 85 [(.one (sQ p):aK)] (.ret [.one (sQ (AR p))]):=by
 refine cW func85 Nn ?_;apply vn (aL jV (aH _)) rfl;apply vn (aB (by omega) (by omega)) rfl;apply aA (Bf (p.length+1) 180 [.bL [sQ p]] (igI p) (fun i hi=>Ic p i A hA1 hi hp hA) (by omega)) rfl;exact aJ rfl
def scI (p:List Rat) (k:Rat) (i:Nat):Rat:=p.getD i 0*k
def VJ (p:List Rat) (k:Rat):List Rat:=trim ((List.range p.length).map (scI p k))
theorem Rk (p:List Rat) (k:Rat) (i A B:Nat) (hA1:1≤A) (hi:i<p.length) (hl:p.length<1099511627776) (hp:∀ a∈p,Fit A a) (hk:Fit B k) (hA:A+B≤34359738000):aN prog 194 [(.one (.int .i64 i):aK),(.one (.bL ([sQ p])):aK),(.one (.bL (qC k)):aK)] (.ret [qT (scI p k i)]):=by
 refine ZZ (ins:=[.v (.one (.int .i64 i)), .ref ([sQ p]), .ref (qC k)]) func194 QR ?_;apply vn (aG jV (by omega) (Int.toNat_natCast i) (aQ hi)) rfl;apply vn (aR cK (by decide) (by simp) (.inl rfl)) rfl;apply aA (iD (p.getD i 0) k A B (aF hp i hA1) hk) rfl;exact aJ rfl
theorem Ou (p:List Rat) (k:Rat) (A B:Nat) (hA1:1≤A) (hl:p.length<1099511627776) (hp:∀ a∈p,Fit A a) (hk:Fit B k) (hA:A+B≤34359738000:=by omega):aN prog 125 [(.one (sQ p):aK),(qT k:aK)] (.ret [.one (sQ (VJ p k))]):=by
 refine cW func125 Vx ?_;apply vn (aL jV (aH _)) rfl;apply aA (Bf p.length 194 [.bL [sQ p], .bL (qC k)] (scI p k) (fun i hi=>Rk p k i A B hA1 hi hl hp hk hA) (by omega)) rfl;exact aJ rfl
def wZ (p:List RQ) (i:Nat):Rat:=(p.getD i RQ.nil).q
theorem rD {p:List RQ} {i:Nat} {a:RQ} (h:p[i]? = some a):wZ p i=a.q:=by rw [wZ,fC,h];rfl
theorem pH (p:List RQ) (i:Nat):wZ p i=(p.map RQ.q).getD i 0:=by
 rw [wZ,fC,fC,dP];cases p[i]? <;> rfl
def LU (p:List RQ) (i:Nat):RQ:=.of (wZ p (i+1)*(((i:Int)+1:Int):Rat))
theorem UG (p:List RQ) (A:Nat) (hl:p.length<1099511627776) (hp:∀ a∈p,Fit A a.q) (hA:A≤1073741824):aN prog 92 [(.one (sR p):aK)] (.ret [.one (sR (eH ((List.range (p.length-1)).map (LU p))))]):=by
 refine cW func92 Uu ?_;refine bJ {i:Nat // i≤p.length-1} (fun g=>[.one (.int .i64 ((g.1:Int)+1)), .rows (rR ((List.range g.1).map (LU p)))]) (fun g=>p.length-1-g.1) ⟨0,cM _⟩ aO.rfl (fun _=>rfl) ?_;rintro ⟨i,hi⟩;dsimp only [aC,aD] at hi ⊢;apply vn (aL gE (aH _)) rfl;apply vn bF rfl;refine vs _ rfl ?_ ?_<;>intro h3
 ·obtain ⟨a,ha⟩:∃ a,p[i+1]? = some a:=⟨_,bI (by omega)⟩
  have hra:=rD ha;have hll:((List.range i).map (LU p)).length=i:=by simp
  apply vn (aG gE (by omega) (show ((i:Int)+1).toNat=i+1 by omega) ha) rfl;apply vn (aR mG (by decide) (by simp) (.inl rfl)) rfl;dsimp only [aC,aD];apply aA (nO ((i:Int)+1)) rfl;apply aA (Ed a (.of (((i:Int)+1:Int):Rat)) A 62 (hp a (dE ha)) (Fit.int (by omega) (by omega))) rfl;rw [RQ.lW,←hra];apply dJ (us:=[rC (LU p i)]) rfl;refine dV (xs:=(List.range i).map (LU p)) (x:=LU p i) (f:=rC) rfl rfl (by omega) (by simp only [maxLen];omega) ?_;rw [show (List.range i).map (LU p) ++ [LU p i]=(List.range (i+1)).map (LU p) by rw [List.range_succ,List.map_append];rfl];dsimp only [aC,aD];apply vn (aB (by omega) (by omega)) rfl;dsimp only [aC,aD];exact aY rfl ⟨⟨i+1,by omega⟩,aO.rfl,by show p.length-1-(i+1)<p.length-1-i;omega⟩
 rw [show i=p.length-1 by omega];apply aA (pJ _ (by rw [aH,pN];omega)) rfl;exact aJ rfl
theorem aa4 (p:List RQ):(eH ((List.range (p.length-1)).map (LU p))).map RQ.q=TW (p.map RQ.q):=by
 rw [kB,TW,List.map_map,aH]
 congr 1
 apply List.map_congr_left;intro i _;show wZ p (i+1)*_=_;rw [pH];rfl
def PU (p:List RQ) (i:Nat):RQ:=if i=0 then .of ((0:Int):Rat) else .of (wZ p (i-1)/((i:Int):Rat))
theorem zQ (p:List RQ) (A:Nat) (hp:∀ a∈p,Fit A a.q) (hl:p.length<1099511627000:=by omega) (hA:A≤1073741824:=by omega):aN prog 93 [(.one (sR p):aK)] (.ret [.one (sR (eH ((List.range (p.length+1)).map (PU p))))]):=by
 refine cW func93 NU ?_;apply aA (nO 0) rfl;apply dJ (us:=[rC (PU p 0)]) rfl;refine bJ {i:Nat // i≤p.length} (fun g=>[.one (.int .i64 (g.1:Int)), .rows (rR ((List.range (g.1+1)).map (PU p)))]) (fun g=>p.length-g.1) ⟨0,cM _⟩ aO.rfl (fun _=>rfl) ?_;rintro ⟨i,hi⟩;dsimp only [aC,aD] at hi ⊢;apply vn (aL gE (aH _)) rfl;apply vn bF rfl;refine vs _ rfl ?_ ?_<;>intro h5
 ·obtain ⟨a,ha⟩:∃ a,p[i]? = some a:=⟨_,bI (by omega)⟩
  have hra:=rD ha;have hll:((List.range (i+1)).map (PU p)).length=i+1:=by simp
  apply vn (aG gE (by omega) (by omega) ha) rfl;apply vn (aR mG (by decide) (by simp) (.inl rfl)) rfl;dsimp only [aC,aD];apply vn (aB (by omega) (by omega)) rfl;apply aA (nO ((i:Int)+1)) rfl
  apply aA (az2 a (.of (((i:Int)+1:Int):Rat)) A 62 (fun h=>by
   have h2:=Rat.intCast_inj.1 (h.trans Rat.intCast_zero.symm);omega) (hp a (dE ha)) (Fit.int (by omega) (by omega))) rfl
  rw [RQ.lW,←hra,show wZ p i/((((i:Int)+1:Int)):Rat)=wZ p (i+1-1)/(((i+1:Nat):Int):Rat) from rfl];dsimp only [aC,aD];refine dJ (us:=[rC (PU p (i+1))]) (by rw [show PU p (i+1) = .of (wZ p (i+1-1)/(((i+1:Nat):Int):Rat)) from if_neg (Nat.succ_ne_zero i)];rfl) ?_;refine dV (xs:=(List.range (i+1)).map (PU p)) (x:=PU p (i+1)) (f:=rC) rfl rfl (by omega) (by simp only [maxLen];omega) ?_;rw [show (List.range (i+1)).map (PU p) ++ [PU p (i+1)]=(List.range (i+1+1)).map (PU p) by rw [List.range_succ (n:=i+1),List.map_append];rfl];apply vn (aB (by omega) (by omega)) rfl;dsimp only [aC,aD];exact aY rfl ⟨⟨i+1,by omega⟩,aO.rfl,by show p.length-(i+1)<p.length-i;omega⟩
 rw [show i=p.length by omega];apply aA (pJ _ (by rw [aH,pN];omega)) rfl;exact aJ rfl
theorem Sq (p:List RQ):(eH ((List.range (p.length+1)).map (PU p))).map RQ.q=AR (p.map RQ.q):=by
 rw [kB,AR,List.map_map,aH]
 congr 1
 apply List.map_congr_left;intro i _;show (PU p i).q=_;rw [PU,igI];split
 ·rfl
 ·rename_i h;rw [ZR,if_neg (fun e=>h (by have:=Rat.intCast_inj.1 (e.trans Rat.intCast_zero.symm);omega)),RQ.lW,pH]
def Vi (p:List RQ) (k:RQ) (i:Nat):RQ:=.of (wZ p i*k.q)
theorem Zh (p:List RQ) (k:RQ) (A B:Nat) (hp:∀ a∈p,Fit A a.q) (hk:Fit B k.q) (hl:p.length<1099511627776:=by omega) (hA:A+B≤1073741824:=by omega):aN prog 115 [(.one (sR p):aK),(oK k:aK)] (.ret [.one (sR (eH ((List.range p.length).map (Vi p k))))]):=by
 refine cW func115 XY ?_;refine bJ {i:Nat // i≤p.length} (fun g=>[.one (.int .i64 (g.1:Int)), .rows (rR ((List.range g.1).map (Vi p k)))]) (fun g=>p.length-g.1) ⟨0,cM _⟩ aO.rfl (fun _=>rfl) ?_;rintro ⟨i,hi⟩;dsimp only [aC,aD] at hi ⊢;apply vn (aL gE (aH _)) rfl;apply vn bF rfl;refine vs _ rfl ?_ ?_<;>intro h3
 ·obtain ⟨a,ha⟩:∃ a,p[i]? = some a:=⟨_,bI (by omega)⟩
  have hra:=rD ha;have hll:((List.range i).map (Vi p k)).length=i:=by simp
  apply vn (aG gE (by omega) (by omega) ha) rfl;apply vn (aR mG (by decide) (by simp) (.inl rfl)) rfl;dsimp only [aC,aD];apply aA (Ed a k A B (hp a (dE ha)) hk) rfl;rw [←hra];apply dJ (us:=[rC (Vi p k i)]) rfl;refine dV (xs:=(List.range i).map (Vi p k)) (x:=Vi p k i) (f:=rC) rfl rfl (by omega) (by simp only [maxLen];omega) ?_;rw [show (List.range i).map (Vi p k) ++ [Vi p k i]=(List.range (i+1)).map (Vi p k) by rw [List.range_succ,List.map_append];rfl];apply vn (aB (by omega) (by omega)) rfl;dsimp only [aC,aD];exact aY rfl ⟨⟨i+1,by omega⟩,aO.rfl,by show p.length-(i+1)<p.length-i;omega⟩
 rw [show i=p.length by omega];apply aA (pJ _ (by rw [aH,pN];omega)) rfl;exact aJ rfl
theorem aa9 (p:List RQ) (k:RQ):(eH ((List.range p.length).map (Vi p k))).map RQ.q=VJ (p.map RQ.q) k.q:=by
 rw [kB,VJ,List.map_map,aH]
 congr 1
 apply List.map_congr_left;intro i _;show wZ p i*_=_;rw [pH];rfl
theorem Nh (k:RQ):aN prog 95 [(oK k:aK)] (.ret [.one (sR (eH [k]))]):=by
 refine cW func95 Pe ?_;apply dJ (us:=[rC k]) rfl;apply aA (pJ [k] (by simp)) rfl;exact aJ rfl
open Go Go.Proofs Tryz Ord
def aT9:Tr:=dN 1 0 2 0 102 36 37 (dA 14 0 (some 4) 51 38 (aU 99 [(G4 11),(G4 15)] [(some 4)] [35,39] [51,51] 51 true (.need (.lit 4 [[(.u 16 0),(.u 16 1),(.u 16 2),(.u 16 3)]]) (.buildSlice 102 1 #[(0,(tT 42))]) 102 false (.need (.app 4 64 (some 3) none (some 17)) (.call ⟨.builtin .append,#[(tT 41),(tT 43)],#[102,102]⟩) 102 false (bB .add 3 18 1 2 0 3 (.back 0 [lV 19 0, .row 18]))))))
def ZE:Tr:=.need (.app 4 64 (some 3) none (some 14)) (.call ⟨.builtin .append,#[(tT 41),(tT 43)],#[102,102]⟩) 102 false (bB .add 3 18 1 2 0 3 (.back 0 [lV 16 0, .row 15]))
def bg1:Tr:=dN 0 0 2 0 102 26 27 (dA 9 0 (some 4) 51 28 (aU 99 [(G4 6),(G4 10)] [(some 4)] [25,29] [51,51] 51 true (cL 1 0 32 102 (cE .lss 3 31 33 2 0 12 0 4 (.split (.u 13 0) aT9 (.need (.lit 4 [[(.u 11 0),(.u 11 1),(.u 11 2),(.u 11 3)]]) (.buildSlice 102 1 #[(0,(tT 42))]) 102 false ZE))))))
def aH3:Tr:=cL 1 0 32 102 (cE .lss 3 31 33 2 0 9 0 4 (.split (.u 10 0) (dN 1 0 2 0 102 36 37 (dA 11 0 (some 4) 51 38 (aU 99 [(G4 6),(G4 12)] [(some 4)] [35,39] [51,51] 51 true (.need (.lit 4 [[(.u 13 0),(.u 13 1),(.u 13 2),(.u 13 3)]]) (.buildSlice 102 1 #[(0,(tT 42))]) 102 false ZE)))) (.need (.lit 4 [[(.u 6 0),(.u 6 1),(.u 6 2),(.u 6 3)]]) (.buildSlice 102 1 #[(0,(tT 42))]) 102 false (.need (.app 4 64 (some 3) none (some 11)) (.call ⟨.builtin .append,#[(tT 41),(tT 43)],#[102,102]⟩) 102 false (bB .add 3 18 1 2 0 3 (.back 0 [lV 13 0, .row 12]))))))
def aE5:Tr:=dN 1 0 2 0 102 36 37 (dA 16 0 (some 4) 51 38 (aU 99 [(G4 13),(G4 17)] [(some 4)] [35,39] [51,51] 51 true (.need (.lit 4 [[(.u 18 0),(.u 18 1),(.u 18 2),(.u 18 3)]]) (.buildSlice 102 1 #[(0,(tT 42))]) 102 false (.need (.app 4 64 (some 3) none (some 19)) (.call ⟨.builtin .append,#[(tT 41),(tT 43)],#[102,102]⟩) 102 false (bB .add 3 18 1 2 0 3 (.back 0 [lV 21 0, .row 20]))))))
def Xg:Tr:=.need (.app 4 64 (some 3) none (some 16)) (.call ⟨.builtin .append,#[(tT 41),(tT 43)],#[102,102]⟩) 102 false (bB .add 3 18 1 2 0 3 (.back 0 [lV 18 0, .row 17]))
def aH2:Tr:=dN 0 0 2 0 102 26 27 (dA 11 0 (some 4) 51 28 (aU 99 [(G4 8),(G4 12)] [(some 4)] [25,29] [51,51] 51 true (cL 1 0 32 102 (cE .lss 3 31 33 2 0 14 0 4 (.split (.u 15 0) aE5 (.need (.lit 4 [[(.u 13 0),(.u 13 1),(.u 13 2),(.u 13 3)]]) (.buildSlice 102 1 #[(0,(tT 42))]) 102 false Xg))))))
def aR9:Tr:=cL 1 0 32 102 (cE .lss 3 31 33 2 0 11 0 4 (.split (.u 12 0) (dN 1 0 2 0 102 36 37 (dA 13 0 (some 4) 51 38 (aU 99 [(G4 8),(G4 14)] [(some 4)] [35,39] [51,51] 51 true (.need (.lit 4 [[(.u 15 0),(.u 15 1),(.u 15 2),(.u 15 3)]]) (.buildSlice 102 1 #[(0,(tT 42))]) 102 false Xg)))) (.need (.lit 4 [[(.u 8 0),(.u 8 1),(.u 8 2),(.u 8 3)]]) (.buildSlice 102 1 #[(0,(tT 42))]) 102 false (.need (.app 4 64 (some 3) none (some 13)) (.call ⟨.builtin .append,#[(tT 41),(tT 43)],#[102,102]⟩) 102 false (bB .add 3 18 1 2 0 3 (.back 0 [lV 15 0, .row 14]))))))
def aO9:Tr:=cL 1 0 14 102 (cE .lss 3 13 15 2 0 6 0 4 (.split (.u 7 0) (.need (.call 39 [(WK 0)] [(some 4)]) (.call ⟨.value (.func 39),#[(.const (I3 0))],#[2]⟩) 51 true (cL 0 0 22 102 (cE .lss 3 21 23 2 0 9 0 4 (.split (.u 10 0) aH2 aR9)))) (aU 126 [(.one (.c (.sr 4 3)))] [none] [45] [102] 102 true (.ret [(W 8 0)]))))
def bm6:Tr:=cL 0 0 9 102 (cE .lss 3 8 10 2 0 4 0 4 (.split (.u 5 0) (.need (.call 39 [(WK 0)] [(some 4)]) (.call ⟨.value (.func 39),#[(.const (I3 0))],#[2]⟩) 51 true (cL 0 0 22 102 (cE .lss 3 21 23 2 0 7 0 4 (.split (.u 8 0) bg1 aH3)))) aO9))
def bf6:Tr:=.loop 0 [lK 0, .nilrow] bm6
theorem aC7:aM prog f94 (fun _=>none) [.v none, .v none]=bf6:=by kernel_rfl
def aG6:Tr:=dN 1 0 3 0 102 17 18 (dA 7 0 (some 4) 51 19 (aU 115 [(W 0 0),(G4 8)] [none] [16,20] [102,51] 102 false (.need (.app 4 64 (some 6) (some (.u 9 0)) none) (.call ⟨.builtin .append,#[(tT 15),(tT 21)],#[102,102]⟩) 102 false (aU 94 [(W 2 0),(.one (.c (.sr 4 10)))] [none] [13,22] [102,102] 102 true (bB .add 3 11 1 3 0 3 (.back 0 [lV 11 0,lV 12 0]))))))
def aW1:Tr:=.loop 0 [lN,lK 0] (cL 1 0 8 102 (cE .lss 3 7 9 3 0 4 0 4 (.split (.u 5 0) (.need (.make [(.int .i64 0),(.slice none 0 0),(.int .i64 0),(.slice none 0 0)] 64 (.u 3 0) (.u 3 0)) (.makeSlice 102 (tT 14) (tT 14)) 102 false aG6) RT)))
theorem aS3:aM prog f101 (fun _=>none) [.v none, .v none]=aW1:=by kernel_rfl
def aI3:Tr:=aU 93 [(W 0 0)] [none] [6] [102] 102 true (aU 97 [(W 2 0),(.agg [(U 1 4),(U 1 5),(U 1 6),(U 1 7)])] [(some 4)] [8,10] [102,51] 51 false (aU 97 [(W 2 0),(G4 1)] [(some 4)] [12,14] [102,51] 51 true (aU 96 [(G4 3),(G4 4)] [(some 4)] [11,15] [51,51] 51 true (.ret [(G4 5)]))))
theorem al9:aM prog f100 (fun _=>none) [.v none, .v (some 8)]=aI3:=by kernel_rfl
theorem MR {p:List RQ} {i:Nat} (h:p.length≤i:=by omega):wZ p i=0:=by rw [wZ,fC,List.getElem?_eq_none h];rfl
theorem AZ {A:Nat} {p:List RQ} (hA:1≤A) (h:∀ a∈p,Fit A a.q) (i:Nat):Fit A (wZ p i):=by
 rw [wZ,fC];cases hi:p[i]? with
 | none=>exact Fit.zero hA
 | some a=>exact h a (dE hi)
def HJ (p q:List RQ) (i:Nat):RQ:=.of (wZ p i+wZ q i)
theorem Ra {p q:List RQ} {i:Nat} {x:Rat} (h:x=wZ p i+wZ q i):RQ.of x=HJ p q i:=by rw [h];rfl
theorem Dd (p q:List RQ) (i:Nat):(List.range i).map (HJ p q) ++ [HJ p q i]=(List.range (i+1)).map (HJ p q):=by rw [List.range_succ,List.map_append];rfl
theorem Yt (p q:List RQ) (A B:Nat) (hp:∀ a∈p,Fit A a.q) (hq:∀ a∈q,Fit B a.q) (hl2:q.length<1099511627776:=by omega) (hA1:1≤A:=by omega) (hB1:1≤B:=by omega) (hl:p.length<1099511627776:=by omega) (hA:A+B≤1073741824:=by omega):aN prog 94 [(.one (sR p):aK),(.one (sR q):aK)] (.ret [.one (sR (eH ((List.range (max p.length q.length)).map (HJ p q))))]):=by
 refine cW func94 aC7 ?_;have f0:Fit 1 ((0:Int):Rat):=Fit.int (by omega) (by omega);refine bJ {i:Nat // i≤max p.length q.length} (fun g=>[.one (.int .i64 (g.1:Int)), .rows (rR ((List.range g.1).map (HJ p q)))]) (fun g=>max p.length q.length-g.1) ⟨0,cM _⟩ aO.rfl (fun _=>rfl) ?_;rintro ⟨i,hi⟩;dsimp only [aC,aD] at hi ⊢;have hll:((List.range i).map (HJ p q)).length=i:=by simp
 apply vn (aL gE (aH _)) rfl;apply vn bF rfl;refine vs _ rfl ?_ ?_<;>intro h3
 ·apply aA (nO 0) rfl;apply vn (aL gE (aH _)) rfl;dsimp only [aC,aD];apply vn bF rfl;refine vs _ rfl ?_ ?_<;>intro h7
  ·obtain ⟨a,ha⟩:∃ a,p[i]? = some a:=⟨_,bI (by omega)⟩
   have hra:=rD ha;have hfa:=hp a (dE ha);apply vn (aG gE (by omega) (by omega) ha) rfl;apply vn (aR mG (by decide) (by simp) (.inl rfl)) rfl;apply aA (yC (.of ((0:Int):Rat)) a 1 A f0 hfa) rfl;dsimp only [aC,aD];apply vn (aL gE (aH _)) rfl;apply vn bF rfl;refine vs _ rfl ?_ ?_<;>intro h13
   ·obtain ⟨b,hb⟩:∃ b,q[i]? = some b:=⟨_,bI (by omega)⟩
    have hrb:=rD hb;have hfb:=hq b (dE hb);apply vn (aG gE (by omega) (by omega) hb) rfl;apply vn (aR mG (by decide) (by simp) (.inl rfl)) rfl;dsimp only [aC,aD];apply aA (yC (.of (((0:Int):Rat)+a.q)) b (1+A+1) B (f0.add hfa) hfb) rfl;rw [Ra (show (RQ.of (((0:Int):Rat)+a.q)).q+b.q=wZ p i+wZ q i by rw [hra,hrb,RQ.lW,show ((0:Int):Rat)=0 from rfl];grind)];apply dJ (us:=[rC (HJ p q i)]) rfl;refine dV (xs:=(List.range i).map (HJ p q)) (x:=HJ p q i) (f:=rC) rfl rfl (by omega) (by simp only [maxLen];omega) ?_;rw [Dd];apply vn (aB (by omega) (by omega)) rfl;dsimp only [aC,aD];exact aY rfl ⟨⟨i+1,by omega⟩,aO.rfl,by show max p.length q.length-(i+1)<max p.length q.length-i;omega⟩
   rw [Ra (show (RQ.of ((0:Int):Rat)).q+a.q=wZ p i+wZ q i by rw [hra,MR (p:=q),RQ.lW,show ((0:Int):Rat)=0 from rfl];grind)];apply dJ (us:=[rC (HJ p q i)]) rfl;refine dV (xs:=(List.range i).map (HJ p q)) (x:=HJ p q i) (f:=rC) rfl rfl (by omega) (by simp only [maxLen];omega) ?_;rw [Dd];apply vn (aB (by omega) (by omega)) rfl;dsimp only [aC,aD];exact aY rfl ⟨⟨i+1,by omega⟩,aO.rfl,by show max p.length q.length-(i+1)<max p.length q.length-i;omega⟩
  exfalso;omega
 apply vn (aL gE (aH _)) rfl;apply vn bF rfl;refine vs _ rfl ?_ ?_<;>intro h41
 ·apply aA (nO 0) rfl;apply vn (aL gE (aH _)) rfl;dsimp only [aC,aD];apply vn bF rfl;refine vs _ rfl ?_ ?_<;>intro h45
  ·exfalso;omega
  apply vn (aL gE (aH _)) rfl;apply vn bF rfl;refine vs _ rfl ?_ ?_<;>intro h65
  ·obtain ⟨b,hb⟩:∃ b,q[i]? = some b:=⟨_,bI (by omega)⟩
   have hrb:=rD hb;have hfb:=hq b (dE hb);apply vn (aG gE (by omega) (by omega) hb) rfl;dsimp only [aC,aD];apply vn (aR mG (by decide) (by simp) (.inl rfl)) rfl;apply aA (yC (.of ((0:Int):Rat)) b 1 B f0 hfb) rfl;rw [Ra (show (RQ.of ((0:Int):Rat)).q+b.q=wZ p i+wZ q i by rw [hrb,MR (p:=p),RQ.lW,show ((0:Int):Rat)=0 from rfl])];apply dJ (us:=[rC (HJ p q i)]) rfl;refine dV (xs:=(List.range i).map (HJ p q)) (x:=HJ p q i) (f:=rC) rfl rfl (by omega) (by simp only [maxLen];omega) ?_;rw [Dd];dsimp only [aC,aD];apply vn (aB (by omega) (by omega)) rfl;dsimp only [aC,aD];exact aY rfl ⟨⟨i+1,by omega⟩,aO.rfl,by show max p.length q.length-(i+1)<max p.length q.length-i;omega⟩
  exfalso;omega
 rw [show i=max p.length q.length by omega];apply aA (pJ _ (by rw [aH,pN];omega)) rfl;exact aJ rfl
theorem Tl (p q:List RQ):(eH ((List.range (max p.length q.length)).map (HJ p q))).map RQ.q=qX (p.map RQ.q) (q.map RQ.q):=by
 rw [kB,qX,List.map_map,aH,aH]
 congr 1
 apply List.map_congr_left;intro i _;show wZ p i+wZ q i=_;rw [pH,pH]
def ovR (p:List RQ) (a b:RQ):Rat:=dL (AR (p.map RQ.q)) b.q-dL (AR (p.map RQ.q)) a.q
theorem SB {a b:Rat} {A B:Nat} (ha:Fit A a) (hb:Fit B b) (hA:1≤A:=by omega):Fit (A+B) (ZR a b):=by
 unfold ZR;split
 ·exact Fit.zero (by omega)
 ·exact ha.div hb
theorem vM {A:Nat} {p:List Rat} (h:∀ a∈p,Fit A a):∀ a∈trim p,Fit A a:=fun a ha=>h a (List.mem_of_mem_take ha)
theorem LW {A:Nat} {p:List Rat} (hA:1≤A) (h:∀ a∈p,Fit A a) (hl:p.length≤1000:=by omega):∀ a∈AR p,Fit (A+12) a:=by
 refine vM fun a ha=>?_;obtain ⟨i,hi,rfl⟩:=eB.1 ha;have hi:=List.mem_range.1 hi;rw [igI];split
 ·exact Fit.zero (by omega)
 ·exact SB (aF h _ hA) (Fit.int (by omega) (by omega)) hA
theorem KW (p:List Rat):(AR p).length≤p.length+1:=by
 have h:=gT ((List.range (p.length+1)).map (igI p));have h2:=fT (z:=zr) ((List.range (p.length+1)).map (igI p));rw [AR,h]
 simpa using h2
theorem al5 {A:Nat} {p:List Rat} (hA:1≤A) (h:∀ a∈p,Fit A a) (hl:p.length≤1000:=by omega):∀ a∈TW p,Fit (A+12) a:=by
 refine vM fun a ha=>?_;obtain ⟨i,hi,rfl⟩:=eB.1 ha;have hi:=List.mem_range.1 hi;exact (aF h _ hA).mul (Fit.int (by omega) (by omega))
theorem KJ (p:List Rat):(TW p).length≤p.length-1:=by
 have h:=gT ((List.range (p.length-1)).map (dvI p));have h2:=fT (z:=zr) ((List.range (p.length-1)).map (dvI p));rw [TW,h]
 simpa using h2
theorem ai2 (p:List RQ) (a b:RQ) (A:Nat) (hp:∀ x∈p,Fit A x.q) (ha:Fit A a.q) (hb:Fit A b.q) (hA1:1≤A:=by omega) (hA:A≤100000:=by omega) (hl:p.length≤100:=by omega):aN prog 100 [(.one (sR p):aK),(.agg (rC a++rC b):aK)] (.ret [oK (.of (ovR p a b))]):=by
 refine cW func100 al9 ?_;have e:=Sq p
 have hm:∀ x∈p.map RQ.q,Fit A x:=fun x hx=>by
  obtain ⟨y,hy,rfl⟩:=eB.1 hx;exact hp y hy
 have hf:=LW hA1 hm (by rw [aH];omega);have hlen:=KW (p.map RQ.q);rw [aH] at hlen;obtain ⟨P,hP⟩:∃ P,P=eH ((List.range (p.length+1)).map (PU p)):=⟨_,rfl⟩
 rw [←hP] at e;have hPl:P.length≤101:=by rw [←aH (f:=RQ.q),e];omega
 have hPf:∀ x∈P,Fit (A+12) x.q:=fun x hx=>hf _ (by rw [←e];exact List.mem_map_of_mem hx);have hB:P.length*(2*(A+12)+2)≤101*(2*(A+12)+2):=Nat.mul_le_mul_right _ hPl;have hB1:(AR (p.map RQ.q)).length*(2*(A+12)+1)≤101*(2*(A+12)+1):=Nat.mul_le_mul_right _ (by omega);apply aA (zQ p A hp) rfl;rw [←hP];apply aA (pG P b (A+12) hPf (hb.mono (by omega))) rfl;rw [e];apply aA (pG P a (A+12) hPf (ha.mono (by omega))) rfl;rw [e];dsimp only [aC,aD];have g1:=iX (B:=A+12) (by omega) (hb.mono (by omega)) (AR (p.map RQ.q)) hf;have g2:=iX (B:=A+12) (by omega) (ha.mono (by omega)) (AR (p.map RQ.q)) hf;apply aA (Xq (.of _) (.of _) _ _ g1 g2) rfl;exact aJ rfl
def iA (st:Bool) (a b:Rat):Bool:=decide (a<b) || (!st&&decide (a=b))
def jS (st:Bool) (l:List Rat):Bool:=(List.range (l.length-1)).all fun i=>iA st (l.getD i 0) (l.getD (i+1) 0)
theorem UP {st:Bool} {l:List Rat} (h:∀ i,i+1<l.length→iA st (l.getD i 0) (l.getD (i+1) 0)=true):jS st l=true:=by
 rw [jS,List.all_eq_true];intro i hi;exact h i (by have:=List.mem_range.1 hi;omega)
theorem Lk {st:Bool} {l:List Rat} (h:jS st l=true) (i:Nat) (hi:i+1<l.length:=by omega):iA st (l.getD i 0) (l.getD (i+1) 0)=true:=by
 rw [jS,List.all_eq_true] at h;exact h i (List.mem_range.2 (by omega))
theorem Qo {st:Bool} {l:List Rat} (i:Nat) (hi:i+1<l.length) (h:iA st (l.getD i 0) (l.getD (i+1) 0)=false):jS st l=false:=by
 cases hr:jS st l with
 | false=>rfl
 | true=>rw [Lk hr i hi] at h;cases h
theorem Vt {l:List Rat} (h:jS true l=true):∀ (d i:Nat),i+d+1<l.length→l.getD i 0<l.getD (i+d+1) 0
 | 0,i,hi=>by
   have:=Lk h i hi
   simpa [iA] using this
 | d+1,i,hi=>by
   have h1:=Vt h d i (by omega);have h2:=Lk h (i+d+1);have h3:l.getD (i+d+1) 0<l.getD (i+d+1+1) 0:=by simpa [iA] using h2
   exact Std.lt_trans h1 h3
theorem Me {l:List Rat} (h:jS true l=true) {i j:Nat} (hij:i<j) (hj:j<l.length:=by omega):l.getD i 0<l.getD j 0:=by
 have:=Vt h (j-i-1) i (by omega)
 rwa [show i+(j-i-1)+1=j by omega] at this
theorem Ef {l:List Rat} (h:jS true l=true) {i j:Nat} (hij:i≤j:=by omega) (hj:j<l.length:=by omega):l.getD i 0≤l.getD j 0:=by
 rcases Nat.lt_or_eq_of_le hij with h1 | h1
 ·exact Rat.le_of_lt (Me h h1 hj)
 ·subst h1;exact Rat.le_refl
def sU (l:List Rat) (x:Rat):Nat:=l.findIdx fun a=>decide (x≤a)
theorem AX {l:List Rat} {x:Rat} {i:Nat} (h1:∀ k,k<i→l.getD k 0<x) (h2:i<l.length→x≤l.getD i 0) (hi:i≤l.length:=by omega):sU l x=i:=by
 rw [sU];rcases Nat.lt_or_eq_of_le hi with hlt | heq
 ·rw [List.findIdx_eq hlt];refine ⟨?_,?_⟩
  ·have:=h2 hlt;rw [fC,bI hlt] at this
   simpa using this
  ·intro j hj;have:=h1 j hj;rw [fC,bI (by omega)] at this
   simpa [Rat.not_le] using this
 ·subst heq;rw [List.findIdx_eq_length];intro a ha;obtain ⟨j,hj,rfl⟩:=List.mem_iff_getElem.1 ha;have:=h1 j hj;rw [fC,bI hj] at this
  simpa [Rat.not_le] using this
def tR (l:List Rat) (n:Nat) (x:Rat):Int:=
 min (if sU l x<l.length∧l.getD (sU l x) 0=x then (sU l x:Int) else (sU l x:Int)-1) ((n:Int)-1)
theorem JX {l:List Rat} {n i:Nat} {x:Rat} (hr:jS true l=true) (hn:n+1=l.length) (hi:i<n) (h1:l.getD i 0≤x)
  (h2:x<l.getD (i+1) 0∨(i+1=n∧x=l.getD (i+1) 0)):tR l n x=i:=by
 rw [tR];rcases h2 with h2 | ⟨h2,h3⟩
 ·by_cases he:l.getD i 0=x
  ·have hl:sU l x=i:=AX (fun k hk=>by rw [←he];exact Me hr hk) (fun _=>by rw [he];exact Rat.le_refl);rw [hl,if_pos ⟨by omega,he⟩];omega
  ·have hlt:l.getD i 0<x:=by
    rcases Rat.le_iff_lt_or_eq.1 h1 with h | h
    ·exact h
    ·exact absurd h he
   have hl:sU l x=i+1:=AX (fun k hk=>Std.lt_of_le_of_lt (Ef hr (show k≤i by omega)) hlt) (fun _=>Rat.le_of_lt h2);rw [hl,if_neg (fun h=>by have:=h.2;rw [this] at h2;exact Rat.lt_irrefl h2)];omega
 ·have hl:sU l x=i+1:=AX (fun k hk=>by rw [h3];exact Me hr hk) (fun _=>by rw [h3];exact Rat.le_refl);rw [hl,if_pos ⟨by omega,h3.symm⟩];omega
open Go Go.Proofs Tryz Ord
theorem aa0:aM prog f112 (fun _=>none) [.v (some 3), .v (some 3)]=at4:=by kernel_rfl
def aQ1:Tr:=aU 63 [(W 0 0)] [(some 3)] [3] [2] 46 true (.ret [(G3 1)])
theorem XE:aM prog f113 (fun _=>none) [.v none]=aQ1:=by kernel_rfl
def Sr:Tr:=bB .gtr 3 23 0 11 0 4 (.split (.u 12 0) zX (.split (.u 1 0) (bB .eql 3 28 0 11 0 4 (.split (.u 13 0) zX (bB .add 3 11 1 3 0 3 (.back 0 [lV 2 0,lV 14 0])))) (bB .add 3 11 1 3 0 3 (.back 0 [lV 2 0,lV 13 0]))))
def aL5:Tr:=.split (.u 5 0) (bB .sub 3 14 1 3 0 3 (dN 0 0 6 0 28 13 15 (dA 7 0 (some 3) 46 16 (dN 0 0 3 0 28 18 19 (dA 9 0 (some 3) 46 20 (aU 67 [(G3 8),(G3 10)] [none] [17,21] [46,46] 3 true Sr)))))) RM
def aI2:Tr:=.loop 0 [(.w (.one (.c (.k (.bool false))))),lK 1] (cL 0 0 8 28 (cE .lss 3 7 9 3 0 4 0 4 aL5))
theorem QT:aM prog f90 (fun _=>none) [.v none, .v none]=aI2:=by kernel_rfl
def aD3:Tr:=.split (.u 5 0) (bB .sub 3 14 1 3 0 3 (dN 0 0 6 0 32 13 15 (dA 7 0 (some 4) 51 16 (dN 0 0 3 0 32 18 19 (dA 9 0 (some 4) 51 20 (aU 41 [(G4 8),(G4 10)] [none] [17,21] [51,51] 3 true Sr)))))) RM
def aU4:Tr:=.loop 0 [(.w (.one (.c (.k (.bool false))))),lK 1] (cL 0 0 8 32 (cE .lss 3 7 9 3 0 4 0 4 aD3))
theorem Wt:aM prog f60 (fun _=>none) [.v none, .v none]=aU4:=by kernel_rfl
def ax1:Tr:=aU 83 [(W 0 0)] [none] [3] [98] 3 true (bB .gtr 3 4 40 1 0 4 RT)
theorem yL:aM prog f89 (fun _=>none) [.v none]=ax1:=by kernel_rfl
def BT:Tr:=.ret [(WK 2)]
def ak0:Tr:=cL 0 0 25 28 (bB .sub 3 26 1 8 0 3 (cE .neq 3 23 27 7 0 9 0 4 (.split (.u 10 0) BT (aU 81 [(W 0 1),(.one (.fM 89 []))] [none] [32,33] [29,143] 4 true (.split (.u 11 0) BT (.ret [(WK 0)]))))))
def aL2:Tr:=cL 0 0 10 28 (bB .gtr 3 11 60 3 0 4 (.split (.u 4 0) BT (.need (.call 90 [(W 0 0),(tF true)] [none]) (.call ⟨.value (.func 90),#[(tT 16),(.const (.bool true))],#[28,4]⟩) 4 false (.need (.prim [(W 5 0)] none) (.unOp .not 4 (tT 17)) 4 false (.split (.u 6 0) BT (cL 0 1 22 29 ak0))))))
def aT8:Tr:=cL 0 0 5 28 (bB .lss 3 6 2 1 0 4 (.split (.u 2 0) BT aL2))
theorem EU:aM prog f22 (fun _=>none) [.v (some 2)]=aT8:=by kernel_rfl
def aE9:Tr:=dN 0 1 2 0 33 12 13 (dA 5 0 none 102 14 (aU 70 [(W 6 0)] [none] [15] [102] 3 true (bB .gtr 3 16 40 7 0 4 (.split (.u 8 0) zX (bB .add 3 9 1 2 0 3 (.back 0 [lV 1 0,lV 9 0]))))))
def ae2:Tr:=.need (.call 60 [(W 0 0),(tF true)] [none]) (.call ⟨.value (.func 60),#[(tT 30),(.const (.bool true))],#[32,4]⟩) 4 false (.split (.u 9 0) (cL 0 1 35 33 (cL 0 0 38 32 (bB .sub 3 39 1 11 0 3 (cE .eql 3 36 40 10 0 12 0 4 (.ret [(W 13 0)]))))) zX)
def aA5:Tr:=.split (.u 4 0) aE9 (cL 0 0 19 32 (bB .geq 3 20 2 5 0 4 (.split (.u 6 0) (cL 0 0 24 32 (bB .leq 3 25 60 7 0 4 (.split (.u 8 0) ae2 zX))) zX)))
def aL8:Tr:=.loop 0 [(.w (.one (.c (.k (.bool false))))),lK 0] (cL 0 1 6 33 (cE .lss 3 4 7 2 0 3 0 4 aA5))
theorem Xj:aM prog f21 (fun _=>none) [.v (some 2)]=aL8:=by kernel_rfl
theorem nB (a b:Rat) (A B:Nat) (ha:Fit A a) (hb:Fit B b) (h:A+B≤34359738368:=by omega):aN prog 112 [(qT a:aK),(qT b:aK)] (.ret [qT (ZR a b)]):=by
 refine cW func112 aa0 ?_;apply aA (Rx a b A B ha hb h) rfl;exact aJ rfl
theorem eI (n:Int) (h1:-9223372036854775808≤n:=by omega) (h2:n<9223372036854775808:=by omega):aN prog 113 [(.one (.int .i64 n):aK)] (.ret [qT (n:Rat)]):=by
 refine cW func113 XE ?_;apply aA (Bz n h1 h2) rfl;exact aJ rfl
theorem aM6 {a b:Rat}:fL a b≤0↔a≤b:=by
 unfold fL;by_cases h1:a<b
 ·rw [if_pos h1];exact ⟨fun _=>by grind,fun _=>by omega⟩
 ·rw [if_neg h1];by_cases h2:b<a
  ·rw [if_pos h2];exact ⟨fun h=>by omega,fun h=>by grind⟩
  ·rw [if_neg h2];exact ⟨fun _=>by grind,fun _=>by omega⟩
theorem gV {a b:Rat}:fL a b<0↔a<b:=by
 unfold fL;by_cases h1:a<b
 ·rw [if_pos h1];exact ⟨fun h=>h1,fun h=>by omega⟩
 ·rw [if_neg h1];by_cases h2:b<a
  ·rw [if_pos h2];exact ⟨fun _=>by omega,fun h=>absurd h h1⟩
  ·rw [if_neg h2];exact ⟨fun h=>by omega,fun h=>absurd h h1⟩
theorem AM {a b:Rat}:fL a b>0↔b<a:=by
 have:=aM6 (a:=a) (b:=b)
 constructor
 ·intro h;have h2:¬ a≤b:=fun e=>by have:=this.2 e;omega
  grind
 ·intro h;have h2:¬ fL a b≤0:=fun e=>by have:=this.1 e;grind
  omega
theorem nJ {a b:Rat}:fL a b=0↔a=b:=by
 have h1:=@AM a b;have h2:=@gV a b
 constructor
 ·intro h;have e1:¬ b<a:=fun h'=>by have:=h1.2 h';omega
  have e2:¬ a<b:=fun h'=>by have:=h2.2 h';omega
  exact Std.le_antisymm (Rat.not_lt.1 e1) (Rat.not_lt.1 e2)
 ·intro h;subst h;have e1:¬ 0<fL a a:=fun h'=>Rat.lt_irrefl (h1.1 h');have e2:¬ fL a a<0:=fun h'=>Rat.lt_irrefl (h2.1 h');omega
theorem Tb {st:Bool} {a b:Rat} (h:0<fL a b):iA st a b=false:=by
 have h:=AM.1 h;have h1:¬ a<b:=fun h'=>Rat.lt_irrefl (Std.lt_trans h h');have h2:¬ a=b:=fun e=>by rw [e] at h;exact Rat.lt_irrefl h
 simp [iA,h1,h2]
theorem step_eq {a b:Rat} (h:fL a b=0):iA true a b=false:=by
 have h:=nJ.1 h;subst h;have h1:¬ a<a:=Rat.lt_irrefl;simp [iA,h1]
theorem vC {st:Bool} {a b:Rat} (h:¬ 0<fL a b) (h0:st=true→¬ fL a b=0):iA st a b=true:=by
 rcases Int.lt_trichotomy (fL a b) 0 with h1 | h1 | h1
 ·have:=gV.1 h1;simp [iA,this]
 ·have h2:st=false:=by cases st;rfl;exact absurd h1 (h0 rfl)
  have:=nJ.1 h1;simp [iA,this,h2]
 ·exact absurd h1 h
def Ln (st:Bool) (l:List Rat) (i:Nat):Prop:=1≤i∧i≤max l.length 1∧∀ j,j+1<i→iA st (l.getD j 0) (l.getD (j+1) 0)=true
theorem Ln.next {st:Bool} {l:List Rat} {i:Nat} (h:Ln st l i) (hi:i<l.length) (hs:iA st (l.getD (i-1) 0) (l.getD i 0)=true):Ln st l (i+1):=
 ⟨by omega,by omega,fun j hj=>by
  have h1:=h.1;rcases Nat.lt_or_ge (j+1) i with h2 | h2
  ·exact h.2.2 j h2
  ·obtain rfl:j=i-1:=by omega
   rwa [show i-1+1=i by omega]⟩
theorem Ln.no {st:Bool} {l:List Rat} {i:Nat} (h:Ln st l i) (hi:i<l.length) (hs:iA st (l.getD (i-1) 0) (l.getD i 0)=false):jS st l=false:=
 Qo (i-1) (by have:=h.1;omega) (by rwa [show i-1+1=i by have:=h.1;omega])
theorem Ln.all {st:Bool} {l:List Rat} {i:Nat} (h:Ln st l i) (hi:¬ i<l.length):jS st l=true:=
 UP fun j hj=>h.2.2 j (by have:=h.1;omega)
theorem uK (l:List Rat) (st:Bool) (A:Nat) (hp:∀ a∈l,Fit A a) (hA1:1≤A) (hA:A≤1073741824) (hl:l.length<1099511627776:=by omega):aN prog 90 [(.one (sQ l):aK),(.one (.exact (.bool st)):aK)] (.ret [.one (.bool (jS st l))]):=by
 refine cW func90 QT ?_;refine bJ {i:Nat // Ln st l i} (fun g=>[.one (.bool false), .one (.int .i64 (g.1:Int))]) (fun g=>l.length+1-g.1) ⟨1,by omega,by omega,fun j hj=>by omega⟩ aO.rfl (fun _=>rfl) ?_;rintro ⟨i,hi⟩;have hi1:=hi.1;dsimp only [aC,aD] at ⊢;apply vn (aL bP (aH _)) rfl;apply vn bF rfl;refine vs _ rfl ?_ ?_<;>intro h3
 ·apply vn (aI (by omega) (by omega)) rfl;dsimp only [aC,aD];apply vn (aG bP (m:=i-1) (by omega) (by omega) (aQ (show i-1<l.length by omega))) rfl;apply vn (aR cK (by decide) (by simp) (.inl rfl)) rfl;dsimp only [aC,aD];apply vn (aG bP (m:=i) (by omega) (Int.toNat_natCast i) (aQ (show i<l.length by omega))) rfl;apply vn (aR cK (by decide) (by simp) (.inl rfl)) rfl;apply aA (iB (l.getD (i-1) 0) (l.getD i 0) A A (aF hp _ hA1) (aF hp _ hA1)) rfl;apply vn eF rfl;dsimp only [aC,aD];refine vs _ rfl ?_ ?_<;>intro h11
  ·rw [hi.no (by omega) (Tb h11)];exact aJ rfl
  refine kG st rfl (fun h13=>?_) (fun h13=>?_)
  ·apply vn cB rfl;refine vs _ rfl ?_ ?_<;>intro h15
   ·subst h13;rw [hi.no (by omega) (step_eq h15)];exact aJ rfl
   apply vn (aB (by omega) (by omega)) rfl;dsimp only [aC,aD];exact aY rfl ⟨⟨i+1,hi.next (by omega) (vC h11 fun _=>h15)⟩,aO.rfl,by show l.length+1-(i+1)<l.length+1-i;omega⟩
  apply vn (aB (by omega) (by omega)) rfl;dsimp only [aC,aD];exact aY rfl ⟨⟨i+1,hi.next (by omega) (vC h11 fun h=>by rw [h13] at h;cases h)⟩,aO.rfl,by show l.length+1-(i+1)<l.length+1-i;omega⟩
 rw [hi.all (by omega)];exact aJ rfl
open Go Go.Proofs Tryz Ord
theorem XO (l:List RQ) (st:Bool) (A:Nat) (hl:l.length<1099511627776) (hp:∀ a∈l,Fit A a.q) (hA:A≤1073741824):aN prog 60 [(.one (sR l):aK),(.one (.exact (.bool st)):aK)] (.ret [.one (.bool (jS st (l.map RQ.q)))]):=by
 refine cW func60 Wt ?_;have hlm:(l.map RQ.q).length=l.length:=aH _;have hg:∀ i a,l[i]? = some a→(l.map RQ.q).getD i 0=a.q:=fun i a h=>by rw [←pH,rD h]
 refine bJ {i:Nat // Ln st (l.map RQ.q) i} (fun g=>[.one (.bool false), .one (.int .i64 (g.1:Int))]) (fun g=>l.length+1-g.1) ⟨1,by omega,by omega,fun j hj=>by omega⟩ aO.rfl (fun _=>rfl) ?_;rintro ⟨i,hi⟩;have hi1:=hi.1;dsimp only [aC,aD] at ⊢;apply vn (aL pY (aH _)) rfl;apply vn bF rfl;refine vs _ rfl ?_ ?_<;>intro h3
 ·apply vn (aI (by omega) (by omega)) rfl;dsimp only [aC,aD];obtain ⟨a,ha⟩:∃ a,l[i-1]? = some a:=⟨_,bI (by omega)⟩
  obtain ⟨b,hb⟩:∃ b,l[i]? = some b:=⟨_,bI (by omega)⟩
  have ea:=hg _ _ ha;have eb:=hg _ _ hb;apply vn (aG pY (m:=i-1) (by omega) (by omega) ha) rfl;apply vn (aR mG (by decide) (by simp) (.inl rfl)) rfl;apply vn (aG pY (m:=i) (by omega) (Int.toNat_natCast i) hb) rfl;apply vn (aR mG (by decide) (by simp) (.inl rfl)) rfl;dsimp only [aC,aD];apply aA (xA a b A A (hp a (dE ha)) (hp b (dE hb))) rfl;rw [←ea,←eb];apply vn eF rfl;refine vs _ rfl ?_ ?_<;>intro h11
  ·rw [hi.no (by omega) (Tb h11)];exact aJ rfl
  refine kG st rfl (fun h13=>?_) (fun h13=>?_)
  ·apply vn cB rfl;refine vs _ rfl ?_ ?_<;>intro h15
   ·subst h13;rw [hi.no (by omega) (step_eq h15)];exact aJ rfl
   apply vn (aB (by omega) (by omega)) rfl;dsimp only [aC,aD];exact aY rfl ⟨⟨i+1,hi.next (by omega) (vC h11 fun _=>h15)⟩,aO.rfl,by show l.length+1-(i+1)<l.length+1-i;omega⟩
  apply vn (aB (by omega) (by omega)) rfl;dsimp only [aC,aD];exact aY rfl ⟨⟨i+1,hi.next (by omega) (vC h11 fun h=>by rw [h13] at h;cases h)⟩,aO.rfl,by show l.length+1-(i+1)<l.length+1-i;omega⟩
 rw [hi.all (by omega)];exact aJ rfl
def nG (p:List Rat):Bool:=decide ((kN zr p:Int)-1>40)
theorem yF (p:List Rat) (hs:p.length<1099511627776):aN prog 89 [(.one (sQ p):aK)] (.ret [.one (.bool (nG p))]):=by
 refine cW func89 yL ?_;apply aA (JO p hs) rfl;apply vn eF rfl;exact aJ rfl
def hU (ks:List Rat) (ps:List (List Rat)):Bool:=decide (2≤ks.length)&&(decide (ks.length≤60)&&(jS true ks&&(decide (ps.length+1=ks.length) && !ps.any nG)))
theorem cH (ks:List Rat) (ps:List (List Rat)) (A:Nat) (hp:∀ a∈ks,Fit A a) (hps:∀ p∈ps,p.length<1099511627776) (hA1:1≤A:=by omega) (hl:ks.length<1099511627776:=by omega) (hA:A≤1073741824:=by omega) (hs:ps.length<1099511627776:=by omega):aN prog 22 [(.agg [sQ ks,eQ ps]:aK)] (.ret [.one (.int .i64 (if hU ks ps then 0 else 2))]):=by
 refine cW func22 EU ?_;apply vn (aL bP (aH _)) rfl;apply vn bF rfl;refine vs _ rfl ?_ ?_<;>intro h2
 ·rw [hU,decide_eq_false (by omega)];exact aJ rfl
 apply vn (aL bP (aH _)) rfl;apply vn eF rfl;dsimp only [aC,aD];refine vs _ rfl ?_ ?_<;>intro h6
 ·rw [hU,decide_eq_true (show 2≤ks.length by omega),decide_eq_false (by omega)];exact aJ rfl
 apply aA (uK ks true A hp hA1 hA hl) rfl;apply vn eS rfl;refine kG (!jS true ks) rfl (fun h10=>?_) (fun h10=>?_)
 ·rw [hU,decide_eq_true (show 2≤ks.length by omega),decide_eq_true (show ks.length≤60 by omega),show jS true ks=false by simpa using h10];exact aJ rfl
 apply vn (aL jT (aH _)) rfl;apply vn (aL bP (aH _)) rfl;dsimp only [aC,aD];apply vn (aI (by omega) (by omega)) rfl;apply vn dS rfl;refine vs _ rfl ?_ ?_<;>intro h16
 ·rw [hU,decide_eq_true (show 2≤ks.length by omega),decide_eq_true (show ks.length≤60 by omega),show jS true ks=true by simpa using h10,decide_eq_false (by omega)];exact aJ rfl
 apply aA (zL ps 89 nG (fun p h=>yF p (hps p h)) hs) rfl;refine kG (ps.any nG) rfl (fun h19=>?_) (fun h19=>?_)
 ·rw [hU,decide_eq_true (show 2≤ks.length by omega),decide_eq_true (show ks.length≤60 by omega),show jS true ks=true by simpa using h10,decide_eq_true (show ps.length+1=ks.length by omega),h19];exact aJ rfl
 rw [hU,decide_eq_true (show 2≤ks.length by omega),decide_eq_true (show ks.length≤60 by omega),show jS true ks=true by simpa using h10,decide_eq_true (show ps.length+1=ks.length by omega),h19];exact aJ rfl
open Go Go.Proofs Tryz Ord
def aO4:Tr:=.need (.prim [(W 0 0),(.one (.c (.k (.slice none 0 0))))] none) (.binOp .eql 28 (tT 3) (.const (.slice none 0 0)) 28) 4 false (.split (.u 1 0) Wr (.need (.lit 3 []) (.buildSlice 28 0 #[]) 28 false (.need (.app 3 56 (some 2) (some (.u 0 0)) none) (.call ⟨.builtin .append,#[(tT 5),(tT 6)],#[28,28]⟩) 28 false (.ret [(.one (.c (.sr 3 3)))]))))
theorem Jz:aM prog f84 (fun _=>none) [.v none]=aO4:=by kernel_rfl
def aE6:Tr:=dN 0 1 3 0 29 11 13 (dA 7 0 none 98 15 (aU 124 [(W 8 0)] [none] [19] [98] 98 true (.need (.lit 1 [[(.u 9 0)]]) (.buildSlice 29 1 #[(0,(tT 20))]) 29 false (.need (.app 1 24 (some 5) none (some 10)) (.call ⟨.builtin .append,#[(tT 18),(tT 21)],#[29,29]⟩) 29 false (bB .add 3 13 1 3 0 3 (.back 0 [lV 12 0,lV 4 0, .row 11]))))))
def az8:Tr:=aU 84 [(W 0 0)] [none] [7] [28] 28 true (cL 0 1 11 29 (.loop 0 [lK 0,lV 1 0, .nilrow] (cE .lss 3 13 12 3 0 2 0 0 (.split (.u 6 0) aE6 (.ret [(.agg [(U 4 0),(.c (.sr 1 5))])])))))
theorem Uw:aM prog f80 (fun _=>none) [.v (some 2)]=az8:=by kernel_rfl
def aF3:Tr:=dN 0 1 1 0 33 18 19 (dA 6 0 none 102 20 (aU 92 [(W 7 0)] [none] [21] [102] 102 true (.need (.lit 1 [[(.u 8 0)]]) (.buildSlice 33 1 #[(0,(tT 22))]) 33 false (.need (.app 1 24 (some 3) none (some 9)) (.call ⟨.builtin .append,#[(tT 16),(tT 23)],#[33,33]⟩) 33 false (bB .add 3 13 1 1 0 3 (.back 0 [lV 11 0,lV 2 0, .row 10]))))))
def aD2:Tr:=.loop 0 [lK 0,lV 0 0, .nilrow] (cL 0 1 10 33 (cE .lss 3 8 11 1 0 4 0 4 (.split (.u 5 0) aF3 (.ret [(.agg [(U 2 0),(.c (.sr 1 3))])]))))
theorem TA:aM prog f26 (fun _=>none) [.v (some 2)]=aD2:=by kernel_rfl
def aK8:Tr:=aU 22 [(G2 0)] [none] [5] [31] 54 true (bB .neq 54 7 0 1 0 4 (.split (.u 2 0) (.ret [(.agg [tN,tN]),(W 1 0)]) (aU 80 [(G2 0)] [(some 2)] [11] [31] 31 true (.ret [(G2 3),(WK 0)]))))
theorem Ka:aM prog f17 (fun _=>none) [.v (some 2)]=aK8:=by kernel_rfl
theorem XC (kr:List RQ) (pr:List (List RQ)) (A:Nat) (hp:∀ a∈kr,Fit A a.q) (hps:∀ p∈pr,p.length<1099511627776) (hl:kr.length<1099511627776:=by omega) (hA:A≤1073741824:=by omega) (hs:pr.length<1099511627776:=by omega):aN prog 21 [(.agg [sR kr,eR pr]:aK)] (.ret [.one (.bool (hU (kr.map RQ.q) (fH pr)))]):=by
 refine cW func21 Xj ?_;have hk:(kr.map RQ.q).length=kr.length:=aH _;have he:(fH pr).length=pr.length:=fE pr;have hd:∀ (i:Nat) (p:List RQ),pr[i]? = some p→decide ((kN Vj p:Int)-1>40)=nG (p.map RQ.q):=fun i p h=>by rw [nG,av6]
 refine bJ {i:Nat // i≤pr.length∧∀ (j:Nat) (p:List RQ),j<i→pr[j]? = some p→nG (p.map RQ.q)=false} (fun g=>[.one (.bool false), .one (.int .i64 (g.1:Int))]) (fun g=>pr.length-g.1) ⟨0,cM _,fun j p hj=>absurd hj (by omega)⟩ aO.rfl (fun _=>rfl) ?_;rintro ⟨i,hi,hb⟩;dsimp only [aC,aD] at hi hb ⊢;apply vn (aL nP (aH _)) rfl;apply vn bF rfl;refine vs _ rfl ?_ ?_<;>intro h3
 ·obtain ⟨p,hpi⟩:∃ p,pr[i]? = some p:=⟨_,bI (by omega)⟩
  have hdp:=hd i p hpi;apply vn (aG nP (by omega) (by omega) hpi) rfl;apply vn (bD qY) rfl;dsimp only [aC,aD];apply aA (oD p (hps p (dE hpi))) rfl;apply vn eF rfl;refine vs _ rfl ?_ ?_<;>intro h8
  ·have hbig:nG (p.map RQ.q)=true:=by rw [←hdp];exact decide_eq_true h8
   rw [hU,show (fH pr).any nG=true from List.any_eq_true.2 ⟨_,dE (vU hpi),hbig⟩];simp only [Bool.not_true,Bool.and_false];exact aJ rfl
  apply vn (aB (by omega) (by omega)) rfl
  exact aY rfl ⟨⟨i+1,by omega,fun j q hj hq=>by
   rcases Nat.lt_or_ge j i with h | h
   ·exact hb j q h hq
   ·obtain rfl:j=i:=by omega
    rw [hpi] at hq;obtain rfl:=Option.some.inj hq;rw [←hdp];exact decide_eq_false h8⟩,aO.rfl,by show pr.length-(i+1)<pr.length-i;omega⟩
 have hany:(fH pr).any nG=false:=by
  rw [List.any_eq_false];intro x hx;obtain ⟨j,hj,rfl⟩:=List.mem_iff_getElem.1 hx;rw [he] at hj;obtain ⟨p,hpj⟩:∃ p,pr[j]? = some p:=⟨_,bI hj⟩
  have h1:=vU hpj;rw [bI (by omega)] at h1;rw [Option.some.inj h1,hb j p (by omega) hpj];simp
 apply vn (aL pY (aH _)) rfl;dsimp only [aC,aD];apply vn gZ rfl;refine vs _ rfl ?_ ?_<;>intro h14
 ·apply vn (aL pY (aH _)) rfl;apply vn iZ rfl;refine vs _ rfl ?_ ?_<;>intro h17
  ·apply aA (XO kr true A hl hp hA) rfl;dsimp only [aC,aD];refine kG (jS true (kr.map RQ.q)) rfl (fun h19=>?_) (fun h19=>?_)
   ·apply vn (aL nP (aH _)) rfl;apply vn (aL pY (aH _)) rfl;apply vn (aI (by omega) (by omega)) rfl;apply vn cB rfl;dsimp only [aC,aD];rw [hU,hany,h19,hk,he,decide_eq_true (show 2≤kr.length by omega),decide_eq_true (show kr.length≤60 by omega)];simp only [Bool.not_false,Bool.and_true,Bool.true_and];rw [show decide (pr.length+1=kr.length)=decide ((pr.length:Int)=(kr.length:Int)-1) by rw [decide_eq_decide];omega];exact aJ rfl
   rw [hU,h19];simp only [Bool.false_and,Bool.and_false];exact aJ rfl
  rw [hU,hk,decide_eq_false (show ¬ kr.length≤60 by omega)];simp only [Bool.false_and,Bool.and_false];exact aJ rfl
 rw [hU,hk,decide_eq_false (show ¬ 2≤kr.length by omega)];simp only [Bool.false_and];exact aJ rfl
theorem Re (ts:List (List aE)) (hs:ts.length<1099511627776):aN prog 84 [(.one (.nnS 3 ts):aK)] (.ret [.one (.slice 3 ts)]):=by
 refine cW func84 Jz ?_;apply vn (Yu bP) rfl;refine kG false rfl (fun h=>by cases h) (fun _=>?_);apply dJ (us:=[]) rfl;refine wF (ts:=[]) (us:=ts) (vs:=ts) rfl (.inr aE.Sub.nn) rfl (by omega) (by simp only [maxLen];omega) ?_;exact aJ rfl
theorem Qq  :aN prog 84 [(.one .Xr:aK)] (.ret [.one (.slice 3 [])]):=by
 refine cW func84 Jz ?_;apply vn (Zb bP) rfl;refine kG true rfl (fun _=>?_) (fun h=>by cases h);exact eM ⟨aE.Sub.nil,trivial⟩
theorem xB (ts:List (List aE)) (hs:ts.length<1099511627776):aN prog 84 [.one (.slice 3 ts)] (.ret [.one (.slice 3 ts)]):=
 DI (fun e=>by subst e;exact Qq) (Re ts hs)
abbrev pI (ps:List (List Rat)):List (List Rat):=ps.map TW
theorem sE (ks:List Rat) (ps:List (List Rat)) (A:Nat) (hs:ps.length<1099511627776) (hps:∀ p∈ps,p.length<1099511627776∧∀ a∈p,Fit A a) (hA1:1≤A:=by omega) (hl:ks.length<1099511627776:=by omega) (hA:A≤1073741824:=by omega):aN prog 80 [(.agg [sQ ks,eQ ps]:aK)] (.ret [.agg [sQ ks,eQ (pI ps)]]):=by
 refine cW func80 Uw ?_;apply aA (xB (rQ ks) (by rw [aH];exact hl)) rfl;apply vn (aL jT (aH _)) rfl;refine bJ {i:Nat // i≤ps.length} (fun g=>[.one (.int .i64 (g.1:Int)), .one (sQ ks), .rows ((pI (ps.take g.1)).map cQ)]) (fun g=>ps.length-g.1) ⟨0,cM _⟩ aO.rfl (fun _=>rfl) ?_;rintro ⟨i,hi⟩;dsimp only [aC,aD] at hi ⊢;apply vn bF rfl;refine vs _ rfl ?_ ?_<;>intro h4
 ·obtain ⟨p,hp⟩:∃ p,ps[i]? = some p:=⟨_,bI (by omega)⟩
  have hpp:=hps p (dE hp);have hll:(pI (ps.take i)).length≤i:=by simp;omega
  apply vn (aG jT (by omega) (by omega) hp) rfl;apply vn (bD AA) rfl;apply aA (Ud p A hA1 hpp.1 hpp.2) rfl;dsimp only [aC,aD];apply dJ (us:=[cQ (TW p)]) rfl;refine dV (xs:=pI (ps.take i)) (x:=TW p) (f:=cQ) rfl rfl (by omega) (by simp only [maxLen];omega) ?_;rw [oA (f:=TW) hp];apply vn (aB (by omega) (by omega)) rfl;dsimp only [aC,aD];exact aY rfl ⟨⟨i+1,by omega⟩,aO.rfl,by show ps.length-(i+1)<ps.length-i;omega⟩
 rw [show i=ps.length by omega,List.take_length];exact aJ rfl
open Go Go.Proofs Tryz Ord
theorem sL (kr:List RQ) (pr:List (List RQ)) (A:Nat) (hps:∀ p∈pr,p.length<1099511627776∧∀ a∈p,Fit A a.q) (hs:pr.length<1099511627776:=by omega) (hA:A≤1073741824:=by omega):aN prog 26 [(.agg [sR kr,eR pr]:aK)] (.ret [.agg [sR kr,eR (pr.map fun p=>eH ((List.range (p.length-1)).map (LU p)))]]):=by
 refine cW func26 TA ?_;refine bJ {i:Nat // i≤pr.length} (fun g=>[.one (.int .i64 (g.1:Int)), .one (sR kr), .rows (((pr.take g.1).map fun p=>eH ((List.range (p.length-1)).map (LU p))).map cR)]) (fun g=>pr.length-g.1) ⟨0,cM _⟩ aO.rfl (fun _=>rfl) ?_;rintro ⟨i,hi⟩;dsimp only [aC,aD] at hi ⊢;apply vn (aL nP (aH _)) rfl;apply vn bF rfl;refine vs _ rfl ?_ ?_<;>intro h3
 ·obtain ⟨p,hp⟩:∃ p,pr[i]? = some p:=⟨_,bI (by omega)⟩
  have hpp:=hps p (dE hp);have hll:((pr.take i).map fun p=>eH ((List.range (p.length-1)).map (LU p))).length≤i:=by simp;omega
  apply vn (aG nP (by omega) (by omega) hp) rfl;apply vn (bD qY) rfl;dsimp only [aC,aD];apply aA (UG p A hpp.1 hpp.2 hA) rfl;apply dJ (us:=[cR (eH ((List.range (p.length-1)).map (LU p)))]) rfl;refine dV (xs:=(pr.take i).map fun p:List RQ=>eH ((List.range (p.length-1)).map (LU p))) (x:=eH ((List.range (p.length-1)).map (LU p))) (f:=cR) rfl rfl (by omega) (by simp only [maxLen];omega) ?_;rw [oA (f:=fun p:List RQ=>eH ((List.range (p.length-1)).map (LU p))) hp];apply vn (aB (by omega) (by omega)) rfl;dsimp only [aC,aD];exact aY rfl ⟨⟨i+1,by omega⟩,aO.rfl,by show pr.length-(i+1)<pr.length-i;omega⟩
 rw [show i=pr.length by omega,List.take_length];exact aJ rfl
theorem sK (pr:List (List RQ)):fH (pr.map fun p=>eH ((List.range (p.length-1)).map (LU p)))=pI (fH pr):=by
 rw [fH,fH,pI,List.map_map,List.map_map];apply List.map_congr_left;intro p _;exact aa4 p
theorem Ur (ks:List Rat) (ps:List (List Rat)) (A:Nat) (h:hU ks ps=true) (hp:∀ a∈ks,Fit A a) (hps:∀ p∈ps,p.length<1099511627776∧∀ a∈p,Fit A a) (hA1:1≤A:=by omega) (hA:A≤1073741824:=by omega) (hl:ks.length<1099511627776:=by omega) (hs:ps.length<1099511627776:=by omega):aN prog 17 [(.agg [sQ ks,eQ ps]:aK)] (.ret [.agg [sQ ks,eQ (pI ps)], .one (.int .i64 0)]):=by
 refine cW func17 Ka ?_;have hc:=cH ks ps A hp (fun p hp=>(hps p hp).1) hA1 hl hA hs;rw [if_pos h] at hc;apply aA hc rfl;apply vn dS rfl;refine vs _ rfl ?_ ?_<;>intro h2
 ·exact absurd rfl h2
 apply aA (sE ks ps A hs hps hA1 hl hA) rfl;exact aJ rfl
theorem Nj (ks:List Rat) (ps:List (List Rat)) (A:Nat) (h:hU ks ps=false) (hp:∀ a∈ks,Fit A a) (hps:∀ p∈ps,p.length<1099511627776) (hA1:1≤A:=by omega) (hA:A≤1073741824:=by omega) (hl:ks.length<1099511627776:=by omega) (hs:ps.length<1099511627776:=by omega):aN prog 17 [(.agg [sQ ks,eQ ps]:aK)] (.ret [.agg [sQ [],eQ []], .one (.int .i64 2)]):=by
 refine cW func17 Ka ?_;have hc:=cH ks ps A hp hps hA1 hl hA hs;rw [if_neg (by rw [h];exact Bool.false_ne_true)] at hc;apply aA hc rfl;apply vn dS rfl;refine vs _ rfl ?_ ?_<;>intro h2
 ·exact eM ⟨⟨aE.Sub.nil,aE.Sub.nil,trivial⟩,aK.Sub.same,trivial⟩
 exact absurd (show ¬ (2:Int)=0 by decide) h2
end Go.Sy
