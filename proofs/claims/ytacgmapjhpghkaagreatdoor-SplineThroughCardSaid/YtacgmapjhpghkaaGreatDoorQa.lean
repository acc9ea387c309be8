/- Part. -/
import Derived.Test.YtacgmapjhpghkaaGreatDoorPb
set_option linter.all false
namespace Go.Sy
open Go Go.Proofs Tryz Ord
def bA7:Tr:=cN .lss 3 11 10 4 0 3 0 0 (.split (.u 6 0) (.need (.callv (.u 1 0) [(W 4 0)] [(some 3)]) (.call ⟨.value (tT 16),#[(tT 17)],#[3]⟩) 46 true (.need (.idx 5 (.u 4 0)) (.indexAddr 98 (tT 14) (tT 15)) 0 false (.need (.strow 5 3 (.u 4 0) 0 [(.u 7 0),(.u 7 1),(.u 7 2)]) (.store 46 (tT 19) (tT 18)) 0 false (bD .add 3 11 1 4 0 3 (.back 0 [lV 9 0, .row 8]))))) (aX 157 [(.one (.c (.sr 3 5)))] [none] [21] [98] 98 true (.ret [(W 7 0)])))
def by9:Tr:=.need (.make [(.slice none 0 0),(.bool false),(.slice none 0 0)] 56 (.u 0 0) (.u 0 0)) (.makeSlice 98 (tT 7) (tT 7)) 98 false (.need (.lenrow 2) (.call ⟨.builtin .len,#[(tT 9)],#[98]⟩) 3 false (.loop 0 [lK 0, .row 2] bA7))
theorem av8:aV prog f159 (fun _=>none) [.v none, .v none]=by9:=by kernel_rfl
def Zs:Tr:=.ret [(G3 5)]
def aL3:Tr:=.ret [(.agg [tN,(tE (.bool false)),tN])]
def bA9:Tr:=dD 0 0 6 98 (cN .lss 3 5 7 1 0 2 0 4 (.split (.u 3 0) (eI 0 0 1 0 98 9 10 (dF 4 0 (some 3) 46 11 Zs)) aL3))
theorem bt2:aV prog f161 (fun _=>none) [.v none, .v none]=bA9:=by kernel_rfl
def bp6:Tr:=aX 161 [(W 1 0),(W 0 0)] [(some 3)] [5,6] [98,3] 46 false (aX 161 [(W 2 0),(W 0 0)] [(some 3)] [8,9] [98,3] 46 true (aX 88 [(G3 3),(G3 4)] [(some 3)] [7,10] [46,46] 46 true Zs))
theorem am3:aV prog f160 (fun _=>none) [.v none, .ref 1, .ref 1]=bp6:=by kernel_rfl
def by3:Tr:=dD 0 0 5 98 (dD 1 0 7 98 (.need (.prim [(W 2 0),(W 3 0)] none) (.call ⟨.builtin .max,#[(tT 6),(tT 8)],#[3,3]⟩) 3 false (aX 159 [(W 4 0),(.one (.eZ 160 [(.ref 0 [(.u 0 0)]),(.ref 0 [(.u 1 0)])]))] [none] [9,10] [3,165] 98 true (.ret [(W 5 0)]))))
theorem aW5:aV prog f66 (fun _=>none) [.v none, .v none]=by3:=by kernel_rfl
def bC6:Tr:=eI 1 0 0 0 98 5 6 (dF 3 0 (some 3) 46 7 (aX 76 [(G3 4),(G3 2)] [(some 3)] [8,9] [46,46] 46 true Zs))
theorem UF:aV prog f194 (fun _=>none) [.v none, .ref 1, .ref 3]=bC6:=by kernel_rfl
def Zc:Tr:=.ret [(W 3 0)]
def bE6:Tr:=dD 0 0 5 98 (aX 159 [(W 2 0),(.one (.eZ 194 [(.ref 0 [(.u 0 0)]),(.ref 0 [(.u 1 0),(.u 1 1),(.u 1 2)])]))] [none] [6,7] [3,165] 98 true Zc)
theorem YZ:aV prog f125 (fun _=>none) [.v none, .v (some 3)]=bE6:=by kernel_rfl
def ZM:Tr:=.ret [(.one (.c (.k (.slice none 0 0))))]
def bi5:Tr:=.need (.ldrow 21 (.u 26 0) 0 3 true) (.load 46 (tT 50)) 46 false (aX 76 [(G3 16),(G3 24)] [(some 3)] [52,53] [46,46] 46 true (aX 88 [(G3 27),(G3 28)] [(some 3)] [51,54] [46,46] 46 true (.need (.idx 21 (.u 25 0)) (.indexAddr 98 (tT 42) (tT 45)) 0 false (.need (.strow 21 3 (.u 25 0) 0 [(.u 29 0),(.u 29 1),(.u 29 2)]) (.store 46 (tT 56) (tT 55)) 0 false (bD .add 3 37 1 20 0 3 (.back 1 [lV 31 0, .row 30]))))))
def bd7:Tr:=cN .lss 3 37 36 20 0 19 0 0 (.split (.u 22 0) (eI 1 0 20 0 98 35 37 (dF 23 0 (some 3) 46 40 (cN .add 3 43 44 12 0 20 0 3 (cN .add 3 47 48 12 0 20 0 3 (.need (.idx 21 (.u 26 0)) (.indexAddr 98 (tT 46) (tT 49)) 0 false bi5))))) (bD .add 3 27 1 12 0 3 (.back 0 [lV 23 0, .row 21])))
def aR8:Tr:=eI 0 0 12 0 98 25 27 (dF 15 0 (some 3) 46 30 (aX 23 [(G3 16)] [none] [32] [46] 3 true (bD .eql 3 33 0 17 0 4 (.split (.u 18 0) (bD .add 3 27 1 12 0 3 (.back 0 [lV 19 0, .row 13])) (dD 1 0 35 98 (.loop 1 [lK 0, .row 13] bd7))))))
def bd3:Tr:=.need (.make [(.slice none 0 0),(.bool false),(.slice none 0 0)] 56 (.u 9 0) (.u 9 0)) (.makeSlice 98 (tT 23) (tT 23)) 98 false (dD 0 0 25 98 (.loop 0 [lK 0, .row 10] (cN .lss 3 27 26 12 0 11 0 0 (.split (.u 14 0) aR8 (aX 157 [(.one (.c (.sr 3 13)))] [none] [59] [98] 98 true (.ret [(W 15 0)]))))))
def bs4:Tr:=dD 1 0 14 98 (bD .eql 3 15 0 4 0 4 (.split (.u 5 0) ZM (dD 0 0 18 98 (dD 1 0 20 98 (cN .add 3 19 21 6 0 7 0 3 (bD .sub 3 22 1 8 0 3 bd3))))))
def br4:Tr:=dD 0 0 10 98 (bD .eql 3 11 0 2 0 4 (.split (.u 3 0) ZM bs4))
theorem aO1:aV prog f64 (fun _=>none) [.v none, .v none]=br4:=by kernel_rfl
def bx5:Tr:=.need (.call 63 [(WK 1)] [(some 3)]) (.call ⟨.value (.func 63),#[(.const (I3 1))],#[2]⟩) 46 true (.need (.lit 3 [[(.u 0 0),(.u 0 1),(.u 0 2)],[(.u 1 0),(.u 1 1),(.u 1 2)]]) (.buildSlice 98 2 #[(0,(tT 3)),(1,(tT 4))]) 98 false (.ret [(.one (.c (.sr 3 2)))]))
theorem aE7:aV prog f232 (fun _=>none) [.v (some 3)]=bx5:=by kernel_rfl
def aI4:Tr:=.ret [(W 2 0)]
def bu0:Tr:=.need (.lit 3 [[(.u 0 0),(.u 0 1),(.u 0 2)]]) (.buildSlice 98 1 #[(0,(tT 3))]) 98 false (aX 157 [(.one (.c (.sr 3 1)))] [none] [4] [98] 98 true aI4)
theorem Qs:aV prog f251 (fun _=>none) [.v (some 3)]=bu0:=by kernel_rfl
theorem Yl (n:Nat):bC (bC aD.Sub) (List.replicate n [.exact (.slice none 0 0), .bool false, .exact (.slice none 0 0)]) (rQ (List.replicate n 0)):=by
 induction n with
 | zero=>trivial
 | succ n ih=>rw [List.replicate_succ,List.replicate_succ];exact ⟨kY,ih⟩
theorem ae5 (n:Nat):aJ.Sub (.rows (List.replicate n [.exact (.slice none 0 0), .bool false, .exact (.slice none 0 0)])) (.rows (rQ (List.replicate n 0))):=Yl n
def part (f:Nat->Rat) (n i:Nat):List Rat:=(List.range i).map f++List.replicate (n-i) 0
theorem SF {f:Nat->Rat} {n i:Nat} (h:i<=n):(part f n i).length=n:=by simp [part];omega
theorem RZ {f:Nat->Rat} {n i:Nat} (h:i<n):(part f n i).set i (f i)=part f n (i+1):=by
 rw [part,part,List.range_succ,List.map_append,List.set_append_right _ _ (by simp)];rw [show n-i=(n-(i+1))+1 by omega,List.replicate_succ];simp
theorem Cb (n:Nat) (g:Nat) (caps:List aD) (f:Nat->Rat) (hf:∀ i,i<n->aQ prog g (.one (.int .i64 (i:Int))::caps.map .one) (.ret [qT (f i)])) (hn:n<1099511627776):aQ prog 159 [(.one (.int .i64 n):aJ),(.one (.eZ g caps):aJ)] (.ret [.one (sQ (trim ((List.range n).map f)))]):=by
 refine eF func159 av8 ?_;refine xE (n:=n) (m:=n) rfl rfl rfl (aY _) (by omega) (by simp only [maxLen];omega) ?_;refine RA rfl (List.length_replicate) ?_;refine bV {i:Nat // i<=n} (fun g=>[.one (.int .i64 g.1), .rows (rQ (part f n g.1))]) (fun g=>n-g.1) ⟨0,cX _⟩ ⟨aJ.Sub.same,ae5 n,trivial⟩ (fun _=>rfl) ?_;rintro ⟨i,hi⟩;dsimp only [aF,aG] at hi ⊢;have hpl:=SF (f:=f) hi;apply vn bL rfl;refine vs _ rfl ?_ ?_<;>intro h4
 .apply pO (f:=g) (caps:=caps) rfl (hf i (by omega)) rfl;refine bX rfl rfl (by omega) (by first | omega | (rw [List.length_set];omega)) ?_;obtain ⟨q,hq⟩:∃ q,(part f n i)[i]? = some q:=⟨_,bZ (by omega)⟩
  refine fJ (f:=qC) (d':=f i) rfl rfl (by omega) (Int.toNat_natCast i) hq rfl ?_;rw [RZ (by omega)];apply vn (aC (by omega) (by omega)) rfl;dsimp only [aF,aG];exact bB rfl ⟨⟨i+1,by omega⟩,aW.rfl,by show n-(i+1)<n-i;omega⟩
 have hin:i=n:=by omega
 subst hin;rw [show part f i i=(List.range i).map f by simp [part]];apply aA (Cd ((List.range i).map f) (by rw [aL,nZ];omega)) rfl;exact aK rfl
theorem aK9 (p:List Rat) (i:Nat) (hi:i<4611686018427387904):aQ prog 161 [(.one (sQ p):aJ),(.one (.int .i64 i):aJ)] (.ret [qT (p.getD i 0)]):=by
 refine eF func161 bt2 ?_;apply vn (aO kH (aL _)) rfl;apply vn bL rfl;refine vs _ rfl ?_ ?_<;>intro h2
 .have hlt:i<p.length:=by omega
  apply vn (aI kH (by omega) (Int.toNat_natCast i) (aH hlt)) rfl;apply vn (aM bU (by decide) (by simp) (.inl rfl)) rfl;exact aK rfl
 rw [show p.getD i 0=0 by rw [gO,List.getElem?_eq_none (by omega)];rfl];exact jN ⟨kY,trivial⟩
theorem aB {A:Nat} {l:List Rat} (h:∀ a∈l,Fit A a) (i:Nat) (hA:1<=A:=by omega):Fit A (l.getD i 0):=by
 rw [gO];cases hi:l[i]? with
 | none=>exact Fit.zero hA
 | some a=>exact h a (fU hi)
theorem ah6 (p q:List Rat) (i A B:Nat) (hA:1<=A) (hB:1<=B) (hp:∀ a∈p,Fit A a) (hq:∀ b∈q,Fit B b) (h:A+B<=34359738368) (hi:i<4611686018427387904:=by omega):aQ prog 160 [(.one (.int .i64 i):aJ),(.one (.bG ([sQ p])):aJ),(.one (.bG ([sQ q])):aJ)] (.ret [qT (p.getD i 0+q.getD i 0)]):=by
 refine dvr (ins:=[.v (.one (.int .i64 i)), .ref ([sQ p]), .ref ([sQ q])]) func160 am3 ?_;apply aA (aK9 p i hi) rfl;apply aA (aK9 q i hi) rfl;apply aA (jD _ _ A B (aB hp i hA) (aB hq i hB) h) rfl;exact aK rfl
def vB (p q:List Rat):List Rat:=trim ((List.range (max p.length q.length)).map fun i=>p.getD i 0+q.getD i 0)
theorem Pe (p q:List Rat) (A B:Nat) (hp:∀ a∈p,Fit A a) (hq:∀ b∈q,Fit B b) (hql:q.length<1099511627776) (hA:1<=A:=by omega) (hB:1<=B:=by omega) (hpl:p.length<1099511627776:=by omega) (h:A+B<=34359738368:=by omega):aQ prog 66 [(.one (sQ p):aJ),(.one (sQ q):aJ)] (.ret [.one (sQ (vB p q))]):=by
 refine eF func66 aW5 ?_;apply vn (aO kH (aL _)) rfl;apply vn (aO kH (aL _)) rfl;apply vn (an6 (k:=.i64) (a:=(p.length:Int)) (b:=(q.length:Int))) rfl;rw [show max (p.length:Int) (q.length:Int)=((max p.length q.length:Nat):Int) by omega];apply aA (Cb (max p.length q.length) 160 [.bG [sQ p], .bG [sQ q]] (fun i=>p.getD i 0+q.getD i 0) (fun i hi=>ah6 p q i A B hA hB hp hq h) (by omega)) rfl;exact aK rfl
def iM (p q:List Rat):List Rat:=if p = []\/q = [] then [] else trim (mulL p q p.length)
set_option maxHeartbeats 1000000 in
theorem Va (p q:List Rat) (D E S T B:Nat) (h0:D≠0) (h1:E≠0) (hp:∀ a∈p,Bd D S a) (hq:∀ b∈q,Bd E T b) (hX:D*E*((p.length+1)*((S+1)*(T+1)))<2^B) (hB:B<=8589934592:=by omega) (hpl:p.length<=549755813888:=by omega) (hql:q.length<=549755813888:=by omega):aQ prog 64 [(.one (sQ p):aJ),(.one (sQ q):aJ)] (.ret [.one (sQ (iM p q))]):=by
 refine eF func64 aO1 ?_;obtain ⟨f1,f2,f3,f4⟩:=EK h0 h1 hX;apply vn (aO kH (aL _)) rfl;apply vn dA rfl;refine vs _ rfl ?_ ?_<;>intro h2
 .have hp0:p = []:=List.eq_nil_of_length_eq_zero (by omega);rw [iM,if_pos (.inl hp0)];exact jN ⟨aD.Sub.nil,trivial⟩
 apply vn (aO kH (aL _)) rfl;apply vn dA rfl;dsimp only [aF,aG];refine vs _ rfl ?_ ?_<;>intro h6
 .have hq0:q = []:=List.eq_nil_of_length_eq_zero (by omega);rw [iM,if_pos (.inr hq0)];exact jN ⟨aD.Sub.nil,trivial⟩
 have hp0:0<p.length:=by omega
 have hq0:0<q.length:=by omega
 rw [iM,if_neg (by rintro (h | h)
                   .rw [h] at hp0;simp at hp0
                   .rw [h] at hq0;simp at hq0)]
 obtain ⟨n,hn⟩:∃ n:Nat,(p.length:Int)+(q.length:Int)-1=(n:Int):=⟨p.length+q.length-1,by omega⟩
 have hn':p.length+q.length-1=n:=by omega
 apply vn (aO kH (aL _)) rfl;apply vn (aO kH (aL _)) rfl;apply vn (aC (by omega) (by omega)) rfl;apply vn (aE (by omega) (by omega)) rfl;rw [hn];dsimp only [aF,aG];refine xE (n:=n) (m:=n) rfl rfl rfl (aY _) (by omega) (by simp only [maxLen];omega) ?_;apply vn (aO kH (aL _)) rfl;dsimp only [aF,aG];refine bV {i:Nat // i<=p.length} (fun g=>[.one (.int .i64 g.1), .rows (rQ (mulL p q g.1))]) (fun g=>p.length-g.1) ⟨0,cX _⟩ ⟨aJ.Sub.same,by show aJ.Sub _ (.rows (rQ (mulL p q 0)));rw [mulL,hn'];exact ae5 n,trivial⟩ (fun _=>rfl) ?_;rintro ⟨i,hi⟩;dsimp only [aF,aG] at hi ⊢;apply vn bL rfl;refine vs _ rfl ?_ ?_<;>intro h16
 .apply vn (aI kH (by omega) (Int.toNat_natCast i) (aH (show i<p.length by omega))) rfl;apply vn (aM bU (by decide) (by simp) (.inl rfl)) rfl;apply aA (iE _) rfl;dsimp only [aF,aG];apply vn dA rfl;refine vs _ rfl ?_ ?_<;>intro h21
  .have hz:p.getD i 0=0:=sign_zero.1 h21;apply vn (aC (by omega) (by omega)) rfl;dsimp only [aF,aG];exact bB rfl ⟨⟨i+1,by omega⟩,(by dsimp only;rw [mulL,if_pos hz];exact aW.rfl),by show p.length-(i+1)<p.length-i;omega⟩
  have hz:¬ p.getD i 0=0:=fun h=>h21 (sign_zero.2 h);have ho:=xB h0 h1 hp hq i;have hi2:i<p.length:=by omega
  apply vn (aO kH (aL _)) rfl;refine bV {k:Nat // k<=q.length} (fun g=>[.one (.int .i64 g.1), .rows (rQ (gP (p.getD i 0) q i (mulL p q i) g.1))]) (fun g=>q.length-g.1) ⟨0,cX _⟩ aW.rfl (fun _=>rfl) ?_;rintro ⟨k,hk⟩;dsimp only [aF,aG] at hk ⊢;apply vn bL rfl;refine vs _ rfl ?_ ?_<;>intro h27
  .have hk2:k<q.length:=by omega
   have hrow:=Fh h0 h1 (lH hp i) hq ho k (i:=i);have hrl:(gP (p.getD i 0) q i (mulL p q i) k).length=n:=by rw [kQ,gQ,hn']
   have hget:=aH (l:=gP (p.getD i 0) q i (mulL p q i) k) (i:=i+k);have hfo:Fit B ((gP (p.getD i 0) q i (mulL p q i) k).getD (i+k) 0):=f3 _ i hi2 (hrow _ (fU hget));apply vn (aI kH (by omega) (Int.toNat_natCast k) (aH hk2)) rfl;apply vn (aM bU (by decide) (by simp) (.inl rfl)) rfl;apply vn (aC (by omega) (by omega)) rfl;dsimp only [aF,aG];apply vn (aC (by omega) (by omega)) rfl;refine bX rfl rfl (by omega) (by omega) ?_;refine PY rfl rfl (by omega) (show ((i:Int)+(k:Int)).toNat=i+k by omega) hget (.inl rfl) rfl ?_;dsimp only [aF,aG,TG,List.drop,List.take];apply aA (eR _ _ B B (f1 _ (lH hp i)) (f2 _ (lH hq k))) rfl;apply aA (jD _ _ B B hfo (f4 _ ((lH hp i).mul h0 h1 (lH hq k)))) rfl;refine bX rfl rfl (by omega) (by omega) ?_;refine fJ (f:=qC) (d':=(gP (p.getD i 0) q i (mulL p q i) k).getD (i+k) 0+p.getD i 0*q.getD k 0) rfl rfl (by omega) (show ((i:Int)+(k:Int)).toNat=i+k by omega) hget rfl ?_;apply vn (aC (by omega) (by omega)) rfl;dsimp only [aF,aG];exact bB rfl ⟨⟨k+1,by omega⟩,aW.rfl,by show q.length-(k+1)<q.length-k;omega⟩
  apply vn (aC (by omega) (by omega)) rfl
  exact bB rfl ⟨⟨i+1,by omega⟩,(by
   dsimp only;rw [mulL,if_neg hz,show q.length=k by omega];exact aW.rfl),by show p.length-(i+1)<p.length-i;omega⟩
 rw [show p.length=i by omega];apply aA (Cd _ (by rw [gQ];omega)) rfl;exact aK rfl
theorem aG9 (c:Rat):aQ prog 232 [(qT c:aJ)] (.ret [.one (sQ [c,1])]):=by
 refine eF func232 aE7 ?_;apply aA (Cw 1) rfl;apply eT rfl;exact aK rfl
theorem Rz (c:Rat):aQ prog 251 [(qT c:aJ)] (.ret [.one (sQ (trim [c]))]):=by
 refine eF func251 Qs ?_;apply eT rfl;apply aA (Cd [c] (by simp)) rfl;exact aK rfl
open Go Go.Proofs Tryz Ord
def aK5:Tr:=.ret [(W 4 0)]
def bv4:Tr:=.split (.u 5 0) (eI 0 0 4 0 29 12 13 (dF 6 0 none 98 14 (.need (.callv (.u 1 0) [(W 7 0)] [none]) (.call ⟨.value (tT 11),#[(tT 15)],#[98]⟩) 4 true (.split (.u 8 0) aK5 (bD .add 3 8 1 4 0 3 (.back 0 [lV 3 0,lV 9 0])))))) (.ret [(WK (-1))])
def bu6:Tr:=dD 0 0 6 29 (.loop 0 [lK 0,lK 0] (cN .lss 3 8 7 4 0 2 0 0 bv4))
theorem Zw:aV prog f179 (fun _=>none) [.v none, .v none]=bu6:=by kernel_rfl
def bC9:Tr:=aX 179 [(W 0 0),(W 1 0)] [none] [5,6] [29,143] 3 true (bD .geq 3 7 0 2 0 4 Zc)
theorem Qw:aV prog f81 (fun _=>none) [.v none, .v none]=bC9:=by kernel_rfl
abbrev cQ (p:List Rat):List aD:=[sQ p]
abbrev eQ (e:List (List Rat)):aD:=.slice 1 (e.map cQ)
def jP {α:Type} (c:α->Bool):List α->Nat->Int
 | [],_=>-1
 | x::xs,i=>if c x then (i:Int) else jP c xs (i+1)
theorem Fo {α:Type} (c:α->Bool):∀ (l:List α) (i:Nat),decide (0<=jP c l i)=l.any c
 | [],i=>rfl
 | x::xs,i=>by
   simp only [jP,List.any_cons];split
   .rename_i h;rw [h];simp
   .rename_i h;rw [Fo c xs (i+1)];simp [h]
theorem ak8 (e:List (List Rat)) (g:Nat) (c:List Rat->Bool) (hc:∀ p∈e,aQ prog g [.one (sQ p)] (.ret [.one (.bool (c p))])) (hs:e.length<1099511627776):aQ prog 179 [(.one (eQ e):aJ),(.one (.eZ g []):aJ)] (.ret [.one (.int .i64 (jP c e 0))]):=by
 refine eF func179 Zw ?_;apply vn (aO pX (aL _)) rfl;refine bV {i:Nat // i<=e.length/\jP c e 0=jP c (e.drop i) i} (fun g=>[.one (.int .i64 0), .one (.int .i64 g.1)]) (fun g=>e.length-g.1) ⟨0,cX _,rfl⟩ aW.rfl (fun _=>rfl) ?_;rintro ⟨i,hi,hf⟩;dsimp only [aF,aG] at hi hf ⊢;apply vn bL rfl;refine vs _ rfl ?_ ?_<;>intro h3
 .obtain ⟨p,hp⟩:∃ p,e[i]? = some p:=⟨_,bZ (by omega)⟩
  have hdrop:e.drop i=p::e.drop (i+1):=by
   rw [List.drop_eq_getElem_cons (by omega),(dQ.1 hp).2]
  rw [hdrop,jP] at hf;apply vn (aI pX (by omega) (by omega) hp) rfl;apply vn (cD PK) rfl;apply pO (f:=g) (caps:=[]) rfl (hc p (fU hp)) rfl;dsimp only [aF,aG];refine nY (c p) rfl (fun h7=>?_) (fun h7=>?_)
  .rw [hf,if_pos h7];exact aK rfl
  apply vn (aC (by omega) (by omega)) rfl;dsimp only [aF,aG];exact bB rfl ⟨⟨i+1,by omega,by rw [hf,if_neg (by simp [h7])]⟩,aW.rfl,by show e.length-(i+1)<e.length-i;omega⟩
 rw [hf,List.drop_eq_nil_of_le (by omega),jP];exact aK rfl
theorem Ss (e:List (List Rat)) (g:Nat) (c:List Rat->Bool) (hc:∀ p∈e,aQ prog g [.one (sQ p)] (.ret [.one (.bool (c p))])) (hs:e.length<1099511627776):aQ prog 81 [(.one (eQ e):aJ),(.one (.eZ g []):aJ)] (.ret [.one (.bool (e.any c))]):=by
 refine eF func81 Qw ?_;apply aA (ak8 e g c hc hs) rfl;apply vn iU rfl;dsimp only [aF,aG];rw [<-Fo c e 0];exact aK rfl
theorem tA {B:Nat} (hB:1<=B) {c:Rat} (hc:Fit B c):∀ ps:List Rat,(∀ q∈ps,Fit B q)->Fit (ps.length*(2*B+1)+1) (iR ps c)
 | [],_=>Fit.zero (by omega)
 | a::ps,h=>by
   have ih:=tA hB hc ps (fun q hq=>h q (List.mem_cons_of_mem _ hq));have:=(ih.mul hc).add (h a List.mem_cons_self);refine this.mono ?_;rw [List.length_cons,Nat.add_mul];omega
def eqR (e:List (List RQ)):List (List Rat):=e.map fun p=>p.map RQ.q
open Go Go.Proofs Tryz Ord
def aJ6:Tr:=aX 165 [(G3 0),(G3 1)] [(some 3),none] [8,9] [46,46] 55 false (.ret [(G3 2)])
theorem aC1:aV prog f181 (fun _=>none) [.v (some 3), .v (some 3)]=aJ6:=by kernel_rfl
def aJ8:Tr:=.ret [(G3 7)]
def br0:Tr:=bD .add 3 5 1 0 0 3 (eI 1 0 2 0 98 4 6 (dF 3 0 (some 3) 46 7 (bD .add 3 9 1 0 0 3 (aX 63 [(W 5 0)] [(some 3)] [10] [2] 46 true (aX 76 [(G3 4),(G3 6)] [(some 3)] [8,11] [46,46] 46 true aJ8)))))
theorem Su:aV prog f193 (fun _=>none) [.v none, .ref 1]=br0:=by kernel_rfl
def bt7:Tr:=dD 0 0 3 98 (bD .sub 3 4 1 1 0 3 (.need (.prim [(W 2 0),(WK 0)] none) (.call ⟨.builtin .max,#[(tT 5),(.const (I3 0))],#[3,3]⟩) 3 false (aX 159 [(W 3 0),(.one (.eZ 193 [(.ref 0 [(.u 0 0)])]))] [none] [6,7] [3,165] 98 true aK5)))
theorem Xp:aV prog f124 (fun _=>none) [.v none]=bt7:=by kernel_rfl
def bu8:Tr:=bD .eql 3 4 0 0 0 4 (.split (.u 2 0) aL3 (bD .sub 3 8 1 0 0 3 (eI 1 0 3 0 98 7 9 (dF 4 0 (some 3) 46 10 (aX 63 [(W 0 0)] [(some 3)] [12] [2] 46 true (aX 181 [(G3 5),(G3 6)] [(some 3)] [11,13] [46,46] 46 true aJ8))))))
theorem KT:aV prog f180 (fun _=>none) [.v none, .ref 1]=bu8:=by kernel_rfl
def bu9:Tr:=dD 0 0 3 98 (bD .add 3 4 1 1 0 3 (aX 159 [(W 2 0),(.one (.eZ 180 [(.ref 0 [(.u 0 0)])]))] [none] [5,6] [3,165] 98 true Zc))
theorem Rf:aV prog f85 (fun _=>none) [.v none]=bu9:=by kernel_rfl
def yG (a b:Rat):Rat:=if b=0 then 0 else a/b
theorem ar9 (a b:Rat) (A B:Nat) (ha:Fit A a) (hb:Fit B b) (h:A+B<=34359738368:=by omega):aQ prog 181 [(qT a:aJ),(qT b:aJ)] (.ret [qT (yG a b)]):=by
 refine eF func181 aC1 ?_;apply aA (Vp a b A B ha hb h) rfl;exact aK rfl
def ZJ (p:List Rat) (i:Nat):Rat:=p.getD (i+1) 0*(((i:Int)+1:Int):Rat)
def iQ (p:List Rat):List Rat:=trim ((List.range (p.length-1)).map (ZJ p))
theorem Sv (p:List Rat) (i A:Nat) (hA1:1<=A) (hl:p.length<1099511627776) (hp:∀ a∈p,Fit A a) (hA:A<=34359738000) (hi:i+1<p.length:=by omega):aQ prog 193 [(.one (.int .i64 i):aJ),(.one (.bG ([sQ p])):aJ)] (.ret [qT (ZJ p i)]):=by
 refine dvr (ins:=[.v (.one (.int .i64 i)), .ref ([sQ p])]) func193 Su ?_;apply vn (aC (by omega) (by omega)) rfl;dsimp only [aF,aG];apply vn (aI kH (by omega) (show ((i:Int)+1).toNat=i+1 by omega) (aH hi)) rfl;apply vn (aM bU (by decide) (by simp) (.inl rfl)) rfl;apply vn (aC (by omega) (by omega)) rfl;apply aA (Cw ((i:Int)+1)) rfl;dsimp only [aF,aG];apply aA (eR (p.getD (i+1) 0) (((i:Int)+1:Int):Rat) A 62 (aB hp (i+1) hA1) (Fit.int (by omega) (by omega))) rfl;exact aK rfl
theorem yZ (p:List Rat) (A:Nat) (hp:∀ a∈p,Fit A a) (hA1:1<=A:=by omega) (hl:p.length<1099511627776:=by omega) (hA:A<=34359738000:=by omega):aQ prog 124 [(.one (sQ p):aJ)] (.ret [.one (sQ (iQ p))]):=by
 refine eF func124 Xp ?_;apply vn (aO kH (aL _)) rfl;apply vn (aE (by omega) (by omega)) rfl;apply vn (an6 (k:=.i64) (a:=(p.length:Int)-1) (b:=0)) rfl;rw [show max ((p.length:Int)-1) 0=((p.length-1:Nat):Int) by omega];apply aA (Cb (p.length-1) 193 [.bG [sQ p]] (ZJ p) (fun i hi=>Sv p i A hA1 hl hp hA) (by omega)) rfl;exact aK rfl
def igI (p:List Rat) (i:Nat):Rat:=if i=0 then 0 else yG (p.getD (i-1) 0) ((i:Int):Rat)
def Wt (p:List Rat):List Rat:=trim ((List.range (p.length+1)).map (igI p))
theorem Ll (p:List Rat) (i A:Nat) (hA1:1<=A) (hi:i<p.length+1) (hp:∀ a∈p,Fit A a) (hA:A<=34359738000) (hl:p.length<1099511627776:=by omega):aQ prog 180 [(.one (.int .i64 i):aJ),(.one (.bG ([sQ p])):aJ)] (.ret [qT (igI p i)]):=by
 refine dvr (ins:=[.v (.one (.int .i64 i)), .ref ([sQ p])]) func180 KT ?_;apply vn dA rfl;refine vs _ rfl ?_ ?_<;>intro h1
 .rw [igI,if_pos (by omega)];exact jN ⟨kY,trivial⟩
 apply vn (aE (by omega) (by omega)) rfl;dsimp only [aF,aG];apply vn (aI kH (m:=i-1) (by omega) (by omega) (aH (show i-1<p.length by omega))) rfl;apply vn (aM bU (by decide) (by simp) (.inl rfl)) rfl;apply aA (Cw (i:Int)) rfl;apply aA (ar9 (p.getD (i-1) 0) ((i:Int):Rat) A 62 (aB hp (i-1) hA1) (Fit.int (by omega) (by omega))) rfl;dsimp only [aF,aG];rw [igI,if_neg (by omega)];exact aK rfl
theorem RU (p:List Rat) (A:Nat) (hp:∀ a∈p,Fit A a) (hA1:1<=A:=by omega) (hl:p.length<1099511627000:=by omega) (hA:A<=34359738000:=by omega):aQ prog 85 [(.one (sQ p):aJ)] (.ret [.one (sQ (Wt p))]):=by
 refine eF func85 Rf ?_;apply vn (aO kH (aL _)) rfl;apply vn (aC (by omega) (by omega)) rfl;apply aA (Cb (p.length+1) 180 [.bG [sQ p]] (igI p) (fun i hi=>Ll p i A hA1 hi hp hA) (by omega)) rfl;exact aK rfl
def scI (p:List Rat) (k:Rat) (i:Nat):Rat:=p.getD i 0*k
def YJ (p:List Rat) (k:Rat):List Rat:=trim ((List.range p.length).map (scI p k))
theorem UZ (p:List Rat) (k:Rat) (i A B:Nat) (hA1:1<=A) (hi:i<p.length) (hl:p.length<1099511627776) (hp:∀ a∈p,Fit A a) (hk:Fit B k) (hA:A+B<=34359738000):aQ prog 194 [(.one (.int .i64 i):aJ),(.one (.bG ([sQ p])):aJ),(.one (.bG (qC k)):aJ)] (.ret [qT (scI p k i)]):=by
 refine dvr (ins:=[.v (.one (.int .i64 i)), .ref ([sQ p]), .ref (qC k)]) func194 UF ?_;apply vn (aI kH (by omega) (Int.toNat_natCast i) (aH hi)) rfl;apply vn (aM bU (by decide) (by simp) (.inl rfl)) rfl;apply aA (eR (p.getD i 0) k A B (aB hp i hA1) hk) rfl;exact aK rfl
theorem EN (p:List Rat) (k:Rat) (A B:Nat) (hA1:1<=A) (hp:∀ a∈p,Fit A a) (hk:Fit B k) (hl:p.length<1099511627776:=by omega) (hA:A+B<=34359738000:=by omega):aQ prog 125 [(.one (sQ p):aJ),(qT k:aJ)] (.ret [.one (sQ (YJ p k))]):=by
 refine eF func125 YZ ?_;apply vn (aO kH (aL _)) rfl;apply aA (Cb p.length 194 [.bG [sQ p], .bG (qC k)] (scI p k) (fun i hi=>UZ p k i A B hA1 hi hl hp hk hA) (by omega)) rfl;exact aK rfl
def rAt (p:List RQ) (i:Nat):Rat:=(p.getD i RQ.nil).q
theorem aZ8 {p:List RQ} {i:Nat} {a:RQ} (h:p[i]? = some a):rAt p i=a.q:=by rw [rAt,gO,h];rfl
theorem aD3 (p:List RQ) (i:Nat):rAt p i=(p.map RQ.q).getD i 0:=by
 rw [rAt,gO,gO,dK];cases p[i]? <;> rfl
open Go Go.Proofs Tryz Ord
theorem kO {a b:Rat} {A B:Nat} (ha:Fit A a) (hb:Fit B b) (hA:1<=A:=by omega):Fit (A+B) (yG a b):=by
 unfold yG;split
 .exact Fit.zero (by omega)
 .exact ha.div hb
theorem rI {A:Nat} {p:List Rat} (h:∀ a∈p,Fit A a):∀ a∈trim p,Fit A a:=fun a ha=>h a (List.mem_of_mem_take ha)
theorem aE9 {A:Nat} {p:List Rat} (hA:1<=A) (h:∀ a∈p,Fit A a) (hl:p.length<=1000:=by omega):∀ a∈Wt p,Fit (A+12) a:=by
 refine rI fun a ha=>?_;obtain ⟨i,hi,rfl⟩:=eH.1 ha;have hi:=List.mem_range.1 hi;rw [igI];split
 .exact Fit.zero (by omega)
 .exact kO (aB h _ hA) (Fit.int (by omega) (by omega)) hA
theorem av3 (p:List Rat):(Wt p).length<=p.length+1:=by
 have h:=iA ((List.range (p.length+1)).map (igI p));have h2:=kR (z:=zr) ((List.range (p.length+1)).map (igI p));rw [Wt,h]
 simpa using h2
theorem BV {A:Nat} {p:List Rat} (hA:1<=A) (h:∀ a∈p,Fit A a) (hl:p.length<=1000):∀ a∈iQ p,Fit (A+12) a:=by
 refine rI fun a ha=>?_;obtain ⟨i,hi,rfl⟩:=eH.1 ha;have hi:=List.mem_range.1 hi;exact (aB h _ hA).mul (Fit.int (by omega) (by omega))
theorem sX (p:List Rat):(iQ p).length<=p.length-1:=by
 have h:=iA ((List.range (p.length-1)).map (ZJ p));have h2:=kR (z:=zr) ((List.range (p.length-1)).map (ZJ p));rw [iQ,h]
 simpa using h2
def iK (st:Bool) (a b:Rat):Bool:=decide (a<b) || (!st&&decide (a=b))
def gC (st:Bool) (l:List Rat):Bool:=(List.range (l.length-1)).all fun i=>iK st (l.getD i 0) (l.getD (i+1) 0)
theorem Yw {st:Bool} {l:List Rat} (h:∀ i,i+1<l.length->iK st (l.getD i 0) (l.getD (i+1) 0)=true):gC st l=true:=by
 rw [gC,List.all_eq_true];intro i hi;exact h i (by have:=List.mem_range.1 hi;omega)
theorem OV {st:Bool} {l:List Rat} (h:gC st l=true) (i:Nat) (hi:i+1<l.length:=by omega):iK st (l.getD i 0) (l.getD (i+1) 0)=true:=by
 rw [gC,List.all_eq_true] at h;exact h i (List.mem_range.2 (by omega))
theorem Ub {st:Bool} {l:List Rat} (i:Nat) (hi:i+1<l.length) (h:iK st (l.getD i 0) (l.getD (i+1) 0)=false):gC st l=false:=by
 cases hr:gC st l with
 | false=>rfl
 | true=>rw [OV hr i hi] at h;cases h
theorem YV {l:List Rat} (h:gC true l=true):∀ (d i:Nat),i+d+1<l.length->l.getD i 0<l.getD (i+d+1) 0
 | 0,i,hi=>by
   have:=OV h i hi
   simpa [iK] using this
 | d+1,i,hi=>by
   have h1:=YV h d i (by omega);have h2:=OV h (i+d+1);have h3:l.getD (i+d+1) 0<l.getD (i+d+1+1) 0:=by simpa [iK] using h2
   exact Std.lt_trans h1 h3
theorem pU {l:List Rat} (h:gC true l=true) {i j:Nat} (hij:i<j) (hj:j<l.length:=by omega):l.getD i 0<l.getD j 0:=by
 have:=YV h (j-i-1) i (by omega)
 rwa [show i+(j-i-1)+1=j by omega] at this
theorem rY {l:List Rat} (h:gC true l=true) {i j:Nat} (hij:i<=j:=by omega) (hj:j<l.length:=by omega):l.getD i 0<=l.getD j 0:=by
 rcases Nat.lt_or_eq_of_le hij with h1 | h1
 .exact Rat.le_of_lt (pU h h1 hj)
 .subst h1;exact Rat.le_refl
def tR (l:List Rat) (x:Rat):Nat:=l.findIdx fun a=>decide (x<=a)
theorem BW {l:List Rat} {x:Rat} {i:Nat} (h1:∀ k,k<i->l.getD k 0<x) (h2:i<l.length->x<=l.getD i 0) (hi:i<=l.length:=by omega):tR l x=i:=by
 rw [tR];rcases Nat.lt_or_eq_of_le hi with hlt | heq
 .rw [List.findIdx_eq hlt];refine ⟨?_,?_⟩
  .have:=h2 hlt;rw [gO,bZ hlt] at this
   simpa using this
  .intro j hj;have:=h1 j hj;rw [gO,bZ (by omega)] at this
   simpa [Rat.not_le] using this
 .subst heq;rw [List.findIdx_eq_length];intro a ha;obtain ⟨j,hj,rfl⟩:=List.mem_iff_getElem.1 ha;have:=h1 j hj;rw [gO,bZ hj] at this
  simpa [Rat.not_le] using this
def qU (l:List Rat) (n:Nat) (x:Rat):Int:=
 min (if tR l x<l.length/\l.getD (tR l x) 0=x then (tR l x:Int) else (tR l x:Int)-1) ((n:Int)-1)
theorem zW {l:List Rat} {n i:Nat} {x:Rat} (hr:gC true l=true) (hn:n+1=l.length) (hi:i<n) (h1:l.getD i 0<=x)
  (h2:x<l.getD (i+1) 0\/(i+1=n/\x=l.getD (i+1) 0)):qU l n x=i:=by
 rw [qU];rcases h2 with h2 | ⟨h2,h3⟩
 .by_cases he:l.getD i 0=x
  .have hl:tR l x=i:=BW (fun k hk=>by rw [<-he];exact pU hr hk) (fun _=>by rw [he];exact Rat.le_refl);rw [hl,if_pos ⟨by omega,he⟩];omega
  .have hlt:l.getD i 0<x:=by
    rcases Rat.le_iff_lt_or_eq.1 h1 with h | h
    .exact h
    .exact absurd h he
   have hl:tR l x=i+1:=BW (fun k hk=>Std.lt_of_le_of_lt (rY hr (show k<=i by omega)) hlt) (fun _=>Rat.le_of_lt h2);rw [hl,if_neg (fun h=>by have:=h.2;rw [this] at h2;exact Rat.lt_irrefl h2)];omega
 .have hl:tR l x=i+1:=BW (fun k hk=>by rw [h3];exact pU hr hk) (fun _=>by rw [h3];exact Rat.le_refl);rw [hl,if_pos ⟨by omega,h3.symm⟩];omega
open Go Go.Proofs Tryz Ord
theorem aq5:aV prog f112 (fun _=>none) [.v (some 3), .v (some 3)]=aJ6:=by kernel_rfl
def bf6:Tr:=aX 63 [(W 0 0)] [(some 3)] [3] [2] 46 true (.ret [(G3 1)])
theorem ae3:aV prog f113 (fun _=>none) [.v none]=bf6:=by kernel_rfl
def WH:Tr:=.ret [(tF false)]
def We:Tr:=bD .gtr 3 23 0 11 0 4 (.split (.u 12 0) WH (.split (.u 1 0) (bD .eql 3 28 0 11 0 4 (.split (.u 13 0) WH (bD .add 3 11 1 3 0 3 (.back 0 [lV 2 0,lV 14 0])))) (bD .add 3 11 1 3 0 3 (.back 0 [lV 2 0,lV 13 0]))))
def Wz:Tr:=.ret [(tF true)]
def bb1:Tr:=.split (.u 5 0) (bD .sub 3 14 1 3 0 3 (eI 0 0 6 0 28 13 15 (dF 7 0 (some 3) 46 16 (eI 0 0 3 0 28 18 19 (dF 9 0 (some 3) 46 20 (aX 67 [(G3 8),(G3 10)] [none] [17,21] [46,46] 3 true We)))))) Wz
def aX8:Tr:=.loop 0 [(.w (.one (.c (.k (.bool false))))),lK 1] (dD 0 0 8 28 (cN .lss 3 7 9 3 0 4 0 4 bb1))
theorem UI:aV prog f90 (fun _=>none) [.v none, .v none]=aX8:=by kernel_rfl
def aT4:Tr:=.split (.u 5 0) (bD .sub 3 14 1 3 0 3 (eI 0 0 6 0 32 13 15 (dF 7 0 (some 4) 51 16 (eI 0 0 3 0 32 18 19 (dF 9 0 (some 4) 51 20 (aX 41 [(G4 8),(G4 10)] [none] [17,21] [51,51] 3 true We)))))) Wz
def bj7:Tr:=.loop 0 [(.w (.one (.c (.k (.bool false))))),lK 1] (dD 0 0 8 32 (cN .lss 3 7 9 3 0 4 0 4 aT4))
theorem ZP:aV prog f60 (fun _=>none) [.v none, .v none]=bj7:=by kernel_rfl
def aN3:Tr:=aX 83 [(W 0 0)] [none] [3] [98] 3 true (bD .gtr 3 4 40 1 0 4 aI4)
theorem Aa:aV prog f89 (fun _=>none) [.v none]=aN3:=by kernel_rfl
def CU:Tr:=.ret [(WK 2)]
def aA0:Tr:=dD 0 0 25 28 (bD .sub 3 26 1 8 0 3 (cN .neq 3 23 27 7 0 9 0 4 (.split (.u 10 0) CU (aX 81 [(W 0 1),(.one (.eZ 89 []))] [none] [32,33] [29,143] 4 true (.split (.u 11 0) CU (.ret [(WK 0)]))))))
def ba9:Tr:=dD 0 0 10 28 (bD .gtr 3 11 60 3 0 4 (.split (.u 4 0) CU (.need (.call 90 [(W 0 0),(tF true)] [none]) (.call ⟨.value (.func 90),#[(tT 16),(.const (.bool true))],#[28,4]⟩) 4 false (.need (.prim [(W 5 0)] none) (.unOp .not 4 (tT 17)) 4 false (.split (.u 6 0) CU (dD 0 1 22 29 aA0))))))
def bj0:Tr:=dD 0 0 5 28 (bD .lss 3 6 2 1 0 4 (.split (.u 2 0) CU ba9))
theorem Hd:aV prog f22 (fun _=>none) [.v (some 2)]=bj0:=by kernel_rfl
theorem iZ (a b:Rat) (A B:Nat) (ha:Fit A a) (hb:Fit B b) (h:A+B<=34359738368:=by omega):aQ prog 112 [(qT a:aJ),(qT b:aJ)] (.ret [qT (yG a b)]):=by
 refine eF func112 aq5 ?_;apply aA (Vp a b A B ha hb h) rfl;exact aK rfl
theorem cK (n:Int) (h1:-9223372036854775808<=n:=by omega) (h2:n<9223372036854775808:=by omega):aQ prog 113 [(.one (.int .i64 n):aJ)] (.ret [qT (n:Rat)]):=by
 refine eF func113 ae3 ?_;apply aA (Cw n h1 h2) rfl;exact aK rfl
theorem bc0 {a b:Rat}:gB a b<=0↔a<=b:=by
 unfold gB;by_cases h1:a<b
 .rw [if_pos h1];exact ⟨fun _=>by grind,fun _=>by omega⟩
 .rw [if_neg h1];by_cases h2:b<a
  .rw [if_pos h2];exact ⟨fun h=>by omega,fun h=>by grind⟩
  .rw [if_neg h2];exact ⟨fun _=>by grind,fun _=>by omega⟩
theorem wU {a b:Rat}:gB a b<0↔a<b:=by
 unfold gB;by_cases h1:a<b
 .rw [if_pos h1];exact ⟨fun h=>h1,fun h=>by omega⟩
 .rw [if_neg h1];by_cases h2:b<a
  .rw [if_pos h2];exact ⟨fun _=>by omega,fun h=>absurd h h1⟩
  .rw [if_neg h2];exact ⟨fun h=>by omega,fun h=>absurd h h1⟩
theorem OI {a b:Rat}:gB a b>0↔b<a:=by
 have:=bc0 (a:=a) (b:=b)
 constructor
 .intro h;have h2:¬ a<=b:=fun e=>by have:=this.2 e;omega
  grind
 .intro h;have h2:¬ gB a b<=0:=fun e=>by have:=this.1 e;grind
  omega
theorem lA {a b:Rat}:gB a b=0↔a=b:=by
 have h1:=@OI a b;have h2:=@wU a b
 constructor
 .intro h;have e1:¬ b<a:=fun h'=>by have:=h1.2 h';omega
  have e2:¬ a<b:=fun h'=>by have:=h2.2 h';omega
  exact Std.le_antisymm (Rat.not_lt.1 e1) (Rat.not_lt.1 e2)
 .intro h;subst h;have e1:¬ 0<gB a a:=fun h'=>Rat.lt_irrefl (h1.1 h');have e2:¬ gB a a<0:=fun h'=>Rat.lt_irrefl (h2.1 h');omega
theorem WI {st:Bool} {a b:Rat} (h:0<gB a b):iK st a b=false:=by
 have h:=OI.1 h;have h1:¬ a<b:=fun h'=>Rat.lt_irrefl (Std.lt_trans h h');have h2:¬ a=b:=fun e=>by rw [e] at h;exact Rat.lt_irrefl h
 simp [iK,h1,h2]
theorem step_eq {a b:Rat} (h:gB a b=0):iK true a b=false:=by
 have h:=lA.1 h;subst h;have h1:¬ a<a:=Rat.lt_irrefl;simp [iK,h1]
theorem wN {st:Bool} {a b:Rat} (h:¬ 0<gB a b) (h0:st=true->¬ gB a b=0):iK st a b=true:=by
 rcases Int.lt_trichotomy (gB a b) 0 with h1 | h1 | h1
 .have:=wU.1 h1;simp [iK,this]
 .have h2:st=false:=by cases st;rfl;exact absurd h1 (h0 rfl)
  have:=lA.1 h1;simp [iK,this,h2]
 .exact absurd h1 h
def OZ (st:Bool) (l:List Rat) (i:Nat):Prop:=1<=i/\i<=max l.length 1/\∀ j,j+1<i->iK st (l.getD j 0) (l.getD (j+1) 0)=true
theorem OZ.next {st:Bool} {l:List Rat} {i:Nat} (h:OZ st l i) (hi:i<l.length) (hs:iK st (l.getD (i-1) 0) (l.getD i 0)=true):OZ st l (i+1):=
 ⟨by omega,by omega,fun j hj=>by
  have h1:=h.1;rcases Nat.lt_or_ge (j+1) i with h2 | h2
  .exact h.2.2 j h2
  .obtain rfl:j=i-1:=by omega
   rwa [show i-1+1=i by omega]⟩
theorem OZ.no {st:Bool} {l:List Rat} {i:Nat} (h:OZ st l i) (hi:i<l.length) (hs:iK st (l.getD (i-1) 0) (l.getD i 0)=false):gC st l=false:=
 Ub (i-1) (by have:=h.1;omega) (by rwa [show i-1+1=i by have:=h.1;omega])
theorem OZ.all {st:Bool} {l:List Rat} {i:Nat} (h:OZ st l i) (hi:¬ i<l.length):gC st l=true:=
 Yw fun j hj=>h.2.2 j (by have:=h.1;omega)
theorem vS (l:List Rat) (st:Bool) (A:Nat) (hp:∀ a∈l,Fit A a) (hA1:1<=A) (hA:A<=1073741824) (hl:l.length<1099511627776:=by omega):aQ prog 90 [(.one (sQ l):aJ),(.one (.exact (.bool st)):aJ)] (.ret [.one (.bool (gC st l))]):=by
 refine eF func90 UI ?_;refine bV {i:Nat // OZ st l i} (fun g=>[.one (.bool false), .one (.int .i64 (g.1:Int))]) (fun g=>l.length+1-g.1) ⟨1,by omega,by omega,fun j hj=>by omega⟩ aW.rfl (fun _=>rfl) ?_;rintro ⟨i,hi⟩;have hi1:=hi.1;dsimp only [aF,aG] at ⊢;apply vn (aO aZ (aL _)) rfl;apply vn bL rfl;refine vs _ rfl ?_ ?_<;>intro h3
 .apply vn (aE (by omega) (by omega)) rfl;dsimp only [aF,aG];apply vn (aI aZ (m:=i-1) (by omega) (by omega) (aH (show i-1<l.length by omega))) rfl;apply vn (aM bU (by decide) (by simp) (.inl rfl)) rfl;dsimp only [aF,aG];apply vn (aI aZ (m:=i) (by omega) (Int.toNat_natCast i) (aH (show i<l.length by omega))) rfl;apply vn (aM bU (by decide) (by simp) (.inl rfl)) rfl;apply aA (fF (l.getD (i-1) 0) (l.getD i 0) A A (aB hp _ hA1) (aB hp _ hA1)) rfl;apply vn gE rfl;dsimp only [aF,aG];refine vs _ rfl ?_ ?_<;>intro h11
  .rw [hi.no (by omega) (WI h11)];exact aK rfl
  refine nY st rfl (fun h13=>?_) (fun h13=>?_)
  .apply vn dA rfl;refine vs _ rfl ?_ ?_<;>intro h15
   .subst h13;rw [hi.no (by omega) (step_eq h15)];exact aK rfl
   apply vn (aC (by omega) (by omega)) rfl;dsimp only [aF,aG];exact bB rfl ⟨⟨i+1,hi.next (by omega) (wN h11 fun _=>h15)⟩,aW.rfl,by show l.length+1-(i+1)<l.length+1-i;omega⟩
  apply vn (aC (by omega) (by omega)) rfl;dsimp only [aF,aG];exact bB rfl ⟨⟨i+1,hi.next (by omega) (wN h11 fun h=>by rw [h13] at h;cases h)⟩,aW.rfl,by show l.length+1-(i+1)<l.length+1-i;omega⟩
 rw [hi.all (by omega)];exact aK rfl
open Go Go.Proofs Tryz Ord
theorem af0 (l:List RQ) (st:Bool) (A:Nat) (hl:l.length<1099511627776) (hp:∀ a∈l,Fit A a.q) (hA:A<=1073741824):aQ prog 60 [(.one (sR l):aJ),(.one (.exact (.bool st)):aJ)] (.ret [.one (.bool (gC st (l.map RQ.q)))]):=by
 refine eF func60 ZP ?_;have hlm:(l.map RQ.q).length=l.length:=aL _;have hg:∀ i a,l[i]? = some a->(l.map RQ.q).getD i 0=a.q:=fun i a h=>by rw [<-aD3,aZ8 h]
 refine bV {i:Nat // OZ st (l.map RQ.q) i} (fun g=>[.one (.bool false), .one (.int .i64 (g.1:Int))]) (fun g=>l.length+1-g.1) ⟨1,by omega,by omega,fun j hj=>by omega⟩ aW.rfl (fun _=>rfl) ?_;rintro ⟨i,hi⟩;have hi1:=hi.1;dsimp only [aF,aG] at ⊢;apply vn (aO UT (aL _)) rfl;apply vn bL rfl;refine vs _ rfl ?_ ?_<;>intro h3
 .apply vn (aE (by omega) (by omega)) rfl;dsimp only [aF,aG];obtain ⟨a,ha⟩:∃ a,l[i-1]? = some a:=⟨_,bZ (by omega)⟩
  obtain ⟨b,hb⟩:∃ b,l[i]? = some b:=⟨_,bZ (by omega)⟩
  have ea:=hg _ _ ha;have eb:=hg _ _ hb;apply vn (aI UT (m:=i-1) (by omega) (by omega) ha) rfl;apply vn (aM bt4 (by decide) (by simp) (.inl rfl)) rfl;apply vn (aI UT (m:=i) (by omega) (Int.toNat_natCast i) hb) rfl;apply vn (aM bt4 (by decide) (by simp) (.inl rfl)) rfl;dsimp only [aF,aG];apply aA (aN2 a b A A (hp a (fU ha)) (hp b (fU hb))) rfl;rw [<-ea,<-eb];apply vn gE rfl;refine vs _ rfl ?_ ?_<;>intro h11
  .rw [hi.no (by omega) (WI h11)];exact aK rfl
  refine nY st rfl (fun h13=>?_) (fun h13=>?_)
  .apply vn dA rfl;refine vs _ rfl ?_ ?_<;>intro h15
   .subst h13;rw [hi.no (by omega) (step_eq h15)];exact aK rfl
   apply vn (aC (by omega) (by omega)) rfl;dsimp only [aF,aG];exact bB rfl ⟨⟨i+1,hi.next (by omega) (wN h11 fun _=>h15)⟩,aW.rfl,by show l.length+1-(i+1)<l.length+1-i;omega⟩
  apply vn (aC (by omega) (by omega)) rfl;dsimp only [aF,aG];exact bB rfl ⟨⟨i+1,hi.next (by omega) (wN h11 fun h=>by rw [h13] at h;cases h)⟩,aW.rfl,by show l.length+1-(i+1)<l.length+1-i;omega⟩
 rw [hi.all (by omega)];exact aK rfl
def Qv (p:List Rat):Bool:=decide ((sH zr p:Int)-1>40)
theorem zS (p:List Rat) (hs:p.length<1099511627776):aQ prog 89 [(.one (sQ p):aJ)] (.ret [.one (.bool (Qv p))]):=by
 refine eF func89 Aa ?_;apply aA (XS p hs) rfl;apply vn gE rfl;exact aK rfl
def rH (ks:List Rat) (ps:List (List Rat)):Bool:=decide (2<=ks.length)&&(decide (ks.length<=60)&&(gC true ks&&(decide (ps.length+1=ks.length) && !ps.any Qv)))
theorem jX (ks:List Rat) (ps:List (List Rat)) (A:Nat) (hp:∀ a∈ks,Fit A a) (hA1:1<=A) (hps:∀ p∈ps,p.length<1099511627776) (hl:ks.length<1099511627776:=by omega) (hA:A<=1073741824:=by omega) (hs:ps.length<1099511627776:=by omega):aQ prog 22 [(.agg [sQ ks,eQ ps]:aJ)] (.ret [.one (.int .i64 (if rH ks ps then 0 else 2))]):=by
 refine eF func22 Hd ?_;apply vn (aO aZ (aL _)) rfl;apply vn bL rfl;refine vs _ rfl ?_ ?_<;>intro h2
 .rw [rH,decide_eq_false (by omega)];exact aK rfl
 apply vn (aO aZ (aL _)) rfl;apply vn gE rfl;dsimp only [aF,aG];refine vs _ rfl ?_ ?_<;>intro h6
 .rw [rH,decide_eq_true (show 2<=ks.length by omega),decide_eq_false (by omega)];exact aK rfl
 apply aA (vS ks true A hp hA1 hA hl) rfl;apply vn fO rfl;refine nY (!gC true ks) rfl (fun h10=>?_) (fun h10=>?_)
 .rw [rH,decide_eq_true (show 2<=ks.length by omega),decide_eq_true (show ks.length<=60 by omega),show gC true ks=false by simpa using h10];exact aK rfl
 apply vn (aO pX (aL _)) rfl;apply vn (aO aZ (aL _)) rfl;dsimp only [aF,aG];apply vn (aE (by omega) (by omega)) rfl;apply vn cT rfl;refine vs _ rfl ?_ ?_<;>intro h16
 .rw [rH,decide_eq_true (show 2<=ks.length by omega),decide_eq_true (show ks.length<=60 by omega),show gC true ks=true by simpa using h10,decide_eq_false (by omega)];exact aK rfl
 apply aA (Ss ps 89 Qv (fun p h=>zS p (hps p h)) hs) rfl;refine nY (ps.any Qv) rfl (fun h19=>?_) (fun h19=>?_)
 .rw [rH,decide_eq_true (show 2<=ks.length by omega),decide_eq_true (show ks.length<=60 by omega),show gC true ks=true by simpa using h10,decide_eq_true (show ps.length+1=ks.length by omega),h19];exact aK rfl
 rw [rH,decide_eq_true (show 2<=ks.length by omega),decide_eq_true (show ks.length<=60 by omega),show gC true ks=true by simpa using h10,decide_eq_true (show ps.length+1=ks.length by omega),h19];exact aK rfl
open Go Go.Proofs Tryz Ord
def bd6:Tr:=.need (.prim [(W 0 0),(.one (.c (.k (.slice none 0 0))))] none) (.binOp .eql 28 (tT 3) (.const (.slice none 0 0)) 28) 4 false (.split (.u 1 0) ZM (.need (.lit 3 []) (.buildSlice 28 0 #[]) 28 false (.need (.app 3 56 (some 2) (some (.u 0 0)) none) (.call ⟨.builtin .append,#[(tT 5),(tT 6)],#[28,28]⟩) 28 false (.ret [(.one (.c (.sr 3 3)))]))))
theorem MU:aV prog f84 (fun _=>none) [.v none]=bd6:=by kernel_rfl
def aU6:Tr:=eI 0 1 3 0 29 11 13 (dF 7 0 none 98 15 (aX 124 [(W 8 0)] [none] [19] [98] 98 true (.need (.lit 1 [[(.u 9 0)]]) (.buildSlice 29 1 #[(0,(tT 20))]) 29 false (.need (.app 1 24 (some 5) none (some 10)) (.call ⟨.builtin .append,#[(tT 18),(tT 21)],#[29,29]⟩) 29 false (bD .add 3 13 1 3 0 3 (.back 0 [lV 12 0,lV 4 0, .row 11]))))))
def aP7:Tr:=aX 84 [(W 0 0)] [none] [7] [28] 28 true (dD 0 1 11 29 (.loop 0 [lK 0,lV 1 0, .nilrow] (cN .lss 3 13 12 3 0 2 0 0 (.split (.u 6 0) aU6 (.ret [(.agg [(U 4 0),(.c (.sr 1 5))])])))))
theorem Ya:aV prog f80 (fun _=>none) [.v (some 2)]=aP7:=by kernel_rfl
def ba5:Tr:=aX 22 [(G2 0)] [none] [5] [31] 54 true (bD .neq 54 7 0 1 0 4 (.split (.u 2 0) (.ret [(.agg [tN,tN]),(W 1 0)]) (aX 80 [(G2 0)] [(some 2)] [11] [31] 31 true (.ret [(G2 3),(WK 0)]))))
theorem Yt:aV prog f17 (fun _=>none) [.v (some 2)]=ba5:=by kernel_rfl
theorem UU (ts:List (List aD)) (hs:ts.length<1099511627776):aQ prog 84 [(.one (.nnS 3 ts):aJ)] (.ret [.one (.slice 3 ts)]):=by
 refine eF func84 MU ?_;apply vn (ai2 aZ) rfl;refine nY false rfl (fun h=>by cases h) (fun _=>?_);apply eT (us:=[]) rfl;refine zQ (ts:=[]) (us:=ts) (vs:=ts) rfl (.inr aD.Sub.nn) rfl (by omega) (by simp only [maxLen];omega) ?_;exact aK rfl
theorem Ud  :aQ prog 84 [(.one .ad0:aJ)] (.ret [.one (.slice 3 [])]):=by
 refine eF func84 MU ?_;apply vn (al5 aZ) rfl;refine nY true rfl (fun _=>?_) (fun h=>by cases h);exact jN ⟨aD.Sub.nil,trivial⟩
theorem yH (ts:List (List aD)) (hs:ts.length<1099511627776):aQ prog 84 [.one (.slice 3 ts)] (.ret [.one (.slice 3 ts)]):=
 Fw (fun e=>by subst e;exact Ud) (UU ts hs)
abbrev qJ (ps:List (List Rat)):List (List Rat):=ps.map iQ
theorem sZ (ks:List Rat) (ps:List (List Rat)) (A:Nat) (hs:ps.length<1099511627776) (hps:∀ p∈ps,p.length<1099511627776/\∀ a∈p,Fit A a) (hA1:1<=A:=by omega) (hl:ks.length<1099511627776:=by omega) (hA:A<=1073741824:=by omega):aQ prog 80 [(.agg [sQ ks,eQ ps]:aJ)] (.ret [.agg [sQ ks,eQ (qJ ps)]]):=by
 refine eF func80 Ya ?_;apply aA (yH (rQ ks) (by rw [aL];exact hl)) rfl;apply vn (aO pX (aL _)) rfl;refine bV {i:Nat // i<=ps.length} (fun g=>[.one (.int .i64 (g.1:Int)), .one (sQ ks), .rows ((qJ (ps.take g.1)).map cQ)]) (fun g=>ps.length-g.1) ⟨0,cX _⟩ aW.rfl (fun _=>rfl) ?_;rintro ⟨i,hi⟩;dsimp only [aF,aG] at hi ⊢;apply vn bL rfl;refine vs _ rfl ?_ ?_<;>intro h4
 .obtain ⟨p,hp⟩:∃ p,ps[i]? = some p:=⟨_,bZ (by omega)⟩
  have hpp:=hps p (fU hp);have hll:(qJ (ps.take i)).length<=i:=by simp;omega
  apply vn (aI pX (by omega) (by omega) hp) rfl;apply vn (cD PK) rfl;apply aA (yZ p A hpp.2 hA1 hpp.1) rfl;dsimp only [aF,aG];apply eT (us:=[cQ (iQ p)]) rfl;refine kV (xs:=qJ (ps.take i)) (x:=iQ p) (f:=cQ) rfl rfl (by omega) (by simp only [maxLen];omega) ?_;rw [yV (f:=iQ) hp];apply vn (aC (by omega) (by omega)) rfl;dsimp only [aF,aG];exact bB rfl ⟨⟨i+1,by omega⟩,aW.rfl,by show ps.length-(i+1)<ps.length-i;omega⟩
 rw [show i=ps.length by omega,List.take_length];exact aK rfl
open Go Go.Proofs Tryz Ord
theorem XV (ks:List Rat) (ps:List (List Rat)) (A:Nat) (h:rH ks ps=true) (hp:∀ a∈ks,Fit A a) (hs:ps.length<1099511627776) (hps:∀ p∈ps,p.length<1099511627776/\∀ a∈p,Fit A a) (hA1:1<=A:=by omega) (hA:A<=1073741824:=by omega) (hl:ks.length<1099511627776:=by omega):aQ prog 17 [(.agg [sQ ks,eQ ps]:aJ)] (.ret [.agg [sQ ks,eQ (qJ ps)], .one (.int .i64 0)]):=by
 refine eF func17 Yt ?_;have hc:=jX ks ps A hp hA1 (fun p hp=>(hps p hp).1) hl hA hs;rw [if_pos h] at hc;apply aA hc rfl;apply vn cT rfl;refine vs _ rfl ?_ ?_<;>intro h2
 .exact absurd rfl h2
 apply aA (sZ ks ps A hs hps hA1 hl hA) rfl;exact aK rfl
end Go.Sy
