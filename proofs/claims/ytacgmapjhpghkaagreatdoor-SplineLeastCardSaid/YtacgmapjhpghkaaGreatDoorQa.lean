/- Part. -/
import Derived.Test.YtacgmapjhpghkaaGreatDoorPb
set_option linter.all false
namespace Go.Sy
open Go Go.Proofs Tryz Ord
def by9:Tr:=cU .lss 3 11 10 4 0 3 0 0 (.split (.u 6 0) (.need (.callv (.u 1 0) [(W 4 0)] [(some 3)]) (.call ⟨.value (tT 16),#[(tT 17)],#[3]⟩) 46 true (.need (.idx 5 (.u 4 0)) (.indexAddr 98 (tT 14) (tT 15)) 0 false (.need (.strow 5 3 (.u 4 0) 0 [(.u 7 0),(.u 7 1),(.u 7 2)]) (.store 46 (tT 19) (tT 18)) 0 false (bI .add 3 11 1 4 0 3 (.back 0 [lV 9 0, .row 8]))))) (aZ 157 [(.one (.c (.sr 3 5)))] [none] [21] [98] 98 true (.ret [(W 7 0)])))
def bx1:Tr:=.need (.make [(.slice none 0 0),(.bool false),(.slice none 0 0)] 56 (.u 0 0) (.u 0 0)) (.makeSlice 98 (tT 7) (tT 7)) 98 false (.need (.lenrow 2) (.call ⟨.builtin .len,#[(tT 9)],#[98]⟩) 3 false (.loop 0 [lK 0, .row 2] by9))
theorem ay0:aV prog f159 (fun _=>none) [.v none, .v none]=bx1:=by kernel_rfl
def ZY:Tr:=.ret [(G3 5)]
def aM8:Tr:=.ret [(.agg [tN,(tE (.bool false)),tN])]
def bz1:Tr:=dS 0 0 6 98 (cU .lss 3 5 7 1 0 2 0 4 (.split (.u 3 0) (eW 0 0 1 0 98 9 10 (eI 4 0 (some 3) 46 11 ZY)) aM8))
theorem br3:aV prog f161 (fun _=>none) [.v none, .v none]=bz1:=by kernel_rfl
def bn8:Tr:=aZ 161 [(W 1 0),(W 0 0)] [(some 3)] [5,6] [98,3] 46 false (aZ 161 [(W 2 0),(W 0 0)] [(some 3)] [8,9] [98,3] 46 true (aZ 88 [(G3 3),(G3 4)] [(some 3)] [7,10] [46,46] 46 true ZY))
theorem ao9:aV prog f160 (fun _=>none) [.v none, .ref 1, .ref 1]=bn8:=by kernel_rfl
def bw5:Tr:=dS 0 0 5 98 (dS 1 0 7 98 (.need (.prim [(W 2 0),(W 3 0)] none) (.call ⟨.builtin .max,#[(tT 6),(tT 8)],#[3,3]⟩) 3 false (aZ 159 [(W 4 0),(.one (.fP 160 [(.ref 0 [(.u 0 0)]),(.ref 0 [(.u 1 0)])]))] [none] [9,10] [3,165] 98 true (.ret [(W 5 0)]))))
theorem aX0:aV prog f66 (fun _=>none) [.v none, .v none]=bw5:=by kernel_rfl
def bA8:Tr:=eW 1 0 0 0 98 5 6 (eI 3 0 (some 3) 46 7 (aZ 76 [(G3 4),(G3 2)] [(some 3)] [8,9] [46,46] 46 true ZY))
theorem Vq:aV prog f194 (fun _=>none) [.v none, .ref 1, .ref 3]=bA8:=by kernel_rfl
def ZL:Tr:=.ret [(W 3 0)]
def bC8:Tr:=dS 0 0 5 98 (aZ 159 [(W 2 0),(.one (.fP 194 [(.ref 0 [(.u 0 0)]),(.ref 0 [(.u 1 0),(.u 1 1),(.u 1 2)])]))] [none] [6,7] [3,165] 98 true ZL)
theorem ZI:aV prog f125 (fun _=>none) [.v none, .v (some 3)]=bC8:=by kernel_rfl
def ab6:Tr:=.ret [(.one (.c (.k (.slice none 0 0))))]
def bh6:Tr:=.need (.ldrow 21 (.u 26 0) 0 3 true) (.load 46 (tT 50)) 46 false (aZ 76 [(G3 16),(G3 24)] [(some 3)] [52,53] [46,46] 46 true (aZ 88 [(G3 27),(G3 28)] [(some 3)] [51,54] [46,46] 46 true (.need (.idx 21 (.u 25 0)) (.indexAddr 98 (tT 42) (tT 45)) 0 false (.need (.strow 21 3 (.u 25 0) 0 [(.u 29 0),(.u 29 1),(.u 29 2)]) (.store 46 (tT 56) (tT 55)) 0 false (bI .add 3 37 1 20 0 3 (.back 1 [lV 31 0, .row 30]))))))
def bd2:Tr:=cU .lss 3 37 36 20 0 19 0 0 (.split (.u 22 0) (eW 1 0 20 0 98 35 37 (eI 23 0 (some 3) 46 40 (cU .add 3 43 44 12 0 20 0 3 (cU .add 3 47 48 12 0 20 0 3 (.need (.idx 21 (.u 26 0)) (.indexAddr 98 (tT 46) (tT 49)) 0 false bh6))))) (bI .add 3 27 1 12 0 3 (.back 0 [lV 23 0, .row 21])))
def aS6:Tr:=eW 0 0 12 0 98 25 27 (eI 15 0 (some 3) 46 30 (aZ 23 [(G3 16)] [none] [32] [46] 3 true (bI .eql 3 33 0 17 0 4 (.split (.u 18 0) (bI .add 3 27 1 12 0 3 (.back 0 [lV 19 0, .row 13])) (dS 1 0 35 98 (.loop 1 [lK 0, .row 13] bd2))))))
def bc7:Tr:=.need (.make [(.slice none 0 0),(.bool false),(.slice none 0 0)] 56 (.u 9 0) (.u 9 0)) (.makeSlice 98 (tT 23) (tT 23)) 98 false (dS 0 0 25 98 (.loop 0 [lK 0, .row 10] (cU .lss 3 27 26 12 0 11 0 0 (.split (.u 14 0) aS6 (aZ 157 [(.one (.c (.sr 3 13)))] [none] [59] [98] 98 true (.ret [(W 15 0)]))))))
def bq6:Tr:=dS 1 0 14 98 (bI .eql 3 15 0 4 0 4 (.split (.u 5 0) ab6 (dS 0 0 18 98 (dS 1 0 20 98 (cU .add 3 19 21 6 0 7 0 3 (bI .sub 3 22 1 8 0 3 bc7))))))
def bp7:Tr:=dS 0 0 10 98 (bI .eql 3 11 0 2 0 4 (.split (.u 3 0) ab6 bq6))
theorem aP5:aV prog f64 (fun _=>none) [.v none, .v none]=bp7:=by kernel_rfl
def bv8:Tr:=.need (.call 63 [(WK 1)] [(some 3)]) (.call ⟨.value (.func 63),#[(.const (I3 1))],#[2]⟩) 46 true (.need (.lit 3 [[(.u 0 0),(.u 0 1),(.u 0 2)],[(.u 1 0),(.u 1 1),(.u 1 2)]]) (.buildSlice 98 2 #[(0,(tT 3)),(1,(tT 4))]) 98 false (.ret [(.one (.c (.sr 3 2)))]))
theorem aG3:aV prog f232 (fun _=>none) [.v (some 3)]=bv8:=by kernel_rfl
def aJ8:Tr:=.ret [(W 2 0)]
def bs2:Tr:=.need (.lit 3 [[(.u 0 0),(.u 0 1),(.u 0 2)]]) (.buildSlice 98 1 #[(0,(tT 3))]) 98 false (aZ 157 [(.one (.c (.sr 3 1)))] [none] [4] [98] 98 true aJ8)
theorem Re:aV prog f251 (fun _=>none) [.v (some 3)]=bs2:=by kernel_rfl
theorem Za (n:Nat):bB (bB aD.Sub) (List.replicate n [.exact (.slice none 0 0), .bool false, .exact (.slice none 0 0)]) (rQ (List.replicate n 0)):=by
 induction n with
 | zero=>trivial
 | succ n ih=>rw [List.replicate_succ,List.replicate_succ];exact ⟨jV,ih⟩
theorem ah7 (n:Nat):aJ.Sub (.rows (List.replicate n [.exact (.slice none 0 0), .bool false, .exact (.slice none 0 0)])) (.rows (rQ (List.replicate n 0))):=Za n
def part (f:Nat->Rat) (n i:Nat):List Rat:=(List.range i).map f++List.replicate (n-i) 0
theorem Tx {f:Nat->Rat} {n i:Nat} (h:i<=n):(part f n i).length=n:=by simp [part];omega
theorem SS {f:Nat->Rat} {n i:Nat} (h:i<n):(part f n i).set i (f i)=part f n (i+1):=by
 rw [part,part,List.range_succ,List.map_append,List.set_append_right _ _ (by simp)];rw [show n-i=(n-(i+1))+1 by omega,List.replicate_succ];simp
theorem Cd (n:Nat) (g:Nat) (caps:List aD) (f:Nat->Rat) (hf:∀ i,i<n->aQ prog g (.one (.int .i64 (i:Int))::caps.map .one) (.ret [qT (f i)])) (hn:n<1099511627776):aQ prog 159 [(.one (.int .i64 n):aJ),(.one (.fP g caps):aJ)] (.ret [.one (sQ (trim ((List.range n).map f)))]):=by
 refine eH func159 ay0 ?_;refine xG (n:=n) (m:=n) rfl rfl rfl (aY _) (by omega) (by simp only [maxLen];omega) ?_;refine Sq rfl (List.length_replicate) ?_;refine bZ {i:Nat // i<=n} (fun g=>[.one (.int .i64 g.1), .rows (rQ (part f n g.1))]) (fun g=>n-g.1) ⟨0,dD _⟩ ⟨aJ.Sub.same,ah7 n,trivial⟩ (fun _=>rfl) ?_;rintro ⟨i,hi⟩;dsimp only [aE,aF] at hi ⊢;have hpl:=Tx (f:=f) hi;apply vn bQ rfl;refine vs _ rfl ?_ ?_<;>intro h4
 .apply zU (f:=g) (caps:=caps) rfl (hf i (by omega)) rfl;refine cJ rfl rfl (by omega) (by first | omega | (rw [List.length_set];omega)) ?_;obtain ⟨q,hq⟩:∃ q,(part f n i)[i]? = some q:=⟨_,cC (by omega)⟩
  refine gP (f:=qC) (d':=f i) rfl rfl (by omega) (Int.toNat_natCast i) hq rfl ?_;rw [SS (by omega)];apply vn (aB (by omega) (by omega)) rfl;dsimp only [aE,aF];exact bD rfl ⟨⟨i+1,by omega⟩,aX.rfl,by show n-(i+1)<n-i;omega⟩
 have hin:i=n:=by omega
 subst hin;rw [show part f i i=(List.range i).map f by simp [part]];apply aA (Cf ((List.range i).map f) (by rw [aK,mV];omega)) rfl;exact aL rfl
theorem aM4 (p:List Rat) (i:Nat) (hi:i<4611686018427387904):aQ prog 161 [(.one (sQ p):aJ),(.one (.int .i64 i):aJ)] (.ret [qT (p.getD i 0)]):=by
 refine eH func161 br3 ?_;apply vn (aM kH (aK _)) rfl;apply vn bQ rfl;refine vs _ rfl ?_ ?_<;>intro h2
 .have hlt:i<p.length:=by omega
  apply vn (aH kH (by omega) (Int.toNat_natCast i) (aI hlt)) rfl;apply vn (aR cF (by decide) (by simp) (.inl rfl)) rfl;exact aL rfl
 rw [show p.getD i 0=0 by rw [iP,List.getElem?_eq_none (by omega)];rfl];exact jL ⟨jV,trivial⟩
theorem aC {A:Nat} {l:List Rat} (h:∀ a∈l,Fit A a) (i:Nat) (hA:1<=A:=by omega):Fit A (l.getD i 0):=by
 rw [iP];cases hi:l[i]? with
 | none=>exact Fit.zero hA
 | some a=>exact h a (gD hi)
theorem ak3 (p q:List Rat) (i A B:Nat) (hA:1<=A) (hB:1<=B) (hp:∀ a∈p,Fit A a) (hq:∀ b∈q,Fit B b) (h:A+B<=34359738368) (hi:i<4611686018427387904:=by omega):aQ prog 160 [(.one (.int .i64 i):aJ),(.one (.bH ([sQ p])):aJ),(.one (.bH ([sQ q])):aJ)] (.ret [qT (p.getD i 0+q.getD i 0)]):=by
 refine dvr (ins:=[.v (.one (.int .i64 i)), .ref ([sQ p]), .ref ([sQ q])]) func160 ao9 ?_;apply aA (aM4 p i hi) rfl;apply aA (aM4 q i hi) rfl;apply aA (jU _ _ A B (aC hp i hA) (aC hq i hB) h) rfl;exact aL rfl
def iM (p q:List Rat):List Rat:=trim ((List.range (max p.length q.length)).map fun i=>p.getD i 0+q.getD i 0)
theorem Fi (p q:List Rat) (A B:Nat) (hp:∀ a∈p,Fit A a) (hq:∀ b∈q,Fit B b) (hql:q.length<1099511627776) (hA:1<=A:=by omega) (hpl:p.length<1099511627776:=by omega) (hB:1<=B:=by omega) (h:A+B<=34359738368:=by omega):aQ prog 66 [(.one (sQ p):aJ),(.one (sQ q):aJ)] (.ret [.one (sQ (iM p q))]):=by
 refine eH func66 aX0 ?_;apply vn (aM kH (aK _)) rfl;apply vn (aM kH (aK _)) rfl;apply vn (aq4 (k:=.i64) (a:=(p.length:Int)) (b:=(q.length:Int))) rfl;rw [show max (p.length:Int) (q.length:Int)=((max p.length q.length:Nat):Int) by omega];apply aA (Cd (max p.length q.length) 160 [.bH [sQ p], .bH [sQ q]] (fun i=>p.getD i 0+q.getD i 0) (fun i hi=>ak3 p q i A B hA hB hp hq h) (by omega)) rfl;exact aL rfl
def eF (p q:List Rat):List Rat:=if p = []\/q = [] then [] else trim (mulL p q p.length)
set_option maxHeartbeats 1000000 in
theorem VK (p q:List Rat) (D E S T B:Nat) (h0:D≠0) (h1:E≠0) (hp:∀ a∈p,Bd D S a) (hq:∀ b∈q,Bd E T b) (hX:D*E*((p.length+1)*((S+1)*(T+1)))<2^B) (hB:B<=8589934592:=by omega) (hpl:p.length<=549755813888:=by omega) (hql:q.length<=549755813888:=by omega):aQ prog 64 [(.one (sQ p):aJ),(.one (sQ q):aJ)] (.ret [.one (sQ (eF p q))]):=by
 refine eH func64 aP5 ?_;obtain ⟨f1,f2,f3,f4⟩:=EA h0 h1 hX;apply vn (aM kH (aK _)) rfl;apply vn dP rfl;refine vs _ rfl ?_ ?_<;>intro h2
 .have hp0:p = []:=List.eq_nil_of_length_eq_zero (by omega);rw [eF,if_pos (.inl hp0)];exact jL ⟨aD.Sub.nil,trivial⟩
 apply vn (aM kH (aK _)) rfl;apply vn dP rfl;dsimp only [aE,aF];refine vs _ rfl ?_ ?_<;>intro h6
 .have hq0:q = []:=List.eq_nil_of_length_eq_zero (by omega);rw [eF,if_pos (.inr hq0)];exact jL ⟨aD.Sub.nil,trivial⟩
 have hp0:0<p.length:=by omega
 have hq0:0<q.length:=by omega
 rw [eF,if_neg (by rintro (h | h)
                   .rw [h] at hp0;simp at hp0
                   .rw [h] at hq0;simp at hq0)]
 obtain ⟨n,hn⟩:∃ n:Nat,(p.length:Int)+(q.length:Int)-1=(n:Int):=⟨p.length+q.length-1,by omega⟩
 have hn':p.length+q.length-1=n:=by omega
 apply vn (aM kH (aK _)) rfl;apply vn (aM kH (aK _)) rfl;apply vn (aB (by omega) (by omega)) rfl;apply vn (aG (by omega) (by omega)) rfl;rw [hn];dsimp only [aE,aF];refine xG (n:=n) (m:=n) rfl rfl rfl (aY _) (by omega) (by simp only [maxLen];omega) ?_;apply vn (aM kH (aK _)) rfl;dsimp only [aE,aF];refine bZ {i:Nat // i<=p.length} (fun g=>[.one (.int .i64 g.1), .rows (rQ (mulL p q g.1))]) (fun g=>p.length-g.1) ⟨0,dD _⟩ ⟨aJ.Sub.same,by show aJ.Sub _ (.rows (rQ (mulL p q 0)));rw [mulL,hn'];exact ah7 n,trivial⟩ (fun _=>rfl) ?_;rintro ⟨i,hi⟩;dsimp only [aE,aF] at hi ⊢;apply vn bQ rfl;refine vs _ rfl ?_ ?_<;>intro h16
 .apply vn (aH kH (by omega) (Int.toNat_natCast i) (aI (show i<p.length by omega))) rfl;apply vn (aR cF (by decide) (by simp) (.inl rfl)) rfl;apply aA (jW _) rfl;dsimp only [aE,aF];apply vn dP rfl;refine vs _ rfl ?_ ?_<;>intro h21
  .have hz:p.getD i 0=0:=sign_zero.1 h21;apply vn (aB (by omega) (by omega)) rfl;dsimp only [aE,aF];exact bD rfl ⟨⟨i+1,by omega⟩,(by dsimp only;rw [mulL,if_pos hz];exact aX.rfl),by show p.length-(i+1)<p.length-i;omega⟩
  have hz:¬ p.getD i 0=0:=fun h=>h21 (sign_zero.2 h);have ho:=xD h0 h1 hp hq i;have hi2:i<p.length:=by omega
  apply vn (aM kH (aK _)) rfl;refine bZ {k:Nat // k<=q.length} (fun g=>[.one (.int .i64 g.1), .rows (rQ (gK (p.getD i 0) q i (mulL p q i) g.1))]) (fun g=>q.length-g.1) ⟨0,dD _⟩ aX.rfl (fun _=>rfl) ?_;rintro ⟨k,hk⟩;dsimp only [aE,aF] at hk ⊢;apply vn bQ rfl;refine vs _ rfl ?_ ?_<;>intro h27
  .have hk2:k<q.length:=by omega
   have hrow:=EW h0 h1 (lP hp i) hq ho k (i:=i);have hrl:(gK (p.getD i 0) q i (mulL p q i) k).length=n:=by rw [kU,gL,hn']
   have hget:=aI (l:=gK (p.getD i 0) q i (mulL p q i) k) (i:=i+k);have hfo:Fit B ((gK (p.getD i 0) q i (mulL p q i) k).getD (i+k) 0):=f3 _ i hi2 (hrow _ (gD hget));apply vn (aH kH (by omega) (Int.toNat_natCast k) (aI hk2)) rfl;apply vn (aR cF (by decide) (by simp) (.inl rfl)) rfl;apply vn (aB (by omega) (by omega)) rfl;dsimp only [aE,aF];apply vn (aB (by omega) (by omega)) rfl;refine cJ rfl rfl (by omega) (by omega) ?_;refine Wi rfl rfl (by omega) (show ((i:Int)+(k:Int)).toNat=i+k by omega) hget (.inl rfl) rfl ?_;dsimp only [aE,aF,XF,List.drop,List.take];apply aA (fK _ _ B B (f1 _ (lP hp i)) (f2 _ (lP hq k))) rfl;apply aA (jU _ _ B B hfo (f4 _ ((lP hp i).mul h0 h1 (lP hq k)))) rfl;refine cJ rfl rfl (by omega) (by omega) ?_;refine gP (f:=qC) (d':=(gK (p.getD i 0) q i (mulL p q i) k).getD (i+k) 0+p.getD i 0*q.getD k 0) rfl rfl (by omega) (show ((i:Int)+(k:Int)).toNat=i+k by omega) hget rfl ?_;apply vn (aB (by omega) (by omega)) rfl;dsimp only [aE,aF];exact bD rfl ⟨⟨k+1,by omega⟩,aX.rfl,by show q.length-(k+1)<q.length-k;omega⟩
  apply vn (aB (by omega) (by omega)) rfl
  exact bD rfl ⟨⟨i+1,by omega⟩,(by
   dsimp only;rw [mulL,if_neg hz,show q.length=k by omega];exact aX.rfl),by show p.length-(i+1)<p.length-i;omega⟩
 rw [show p.length=i by omega];apply aA (Cf _ (by rw [gL];omega)) rfl;exact aL rfl
theorem aI4 (c:Rat):aQ prog 232 [(qT c:aJ)] (.ret [.one (sQ [c,1])]):=by
 refine eH func232 aG3 ?_;apply aA (wD 1) rfl;apply eK rfl;exact aL rfl
theorem Sp (c:Rat):aQ prog 251 [(qT c:aJ)] (.ret [.one (sQ (trim [c]))]):=by
 refine eH func251 Re ?_;apply eK rfl;apply aA (Cf [c] (by simp)) rfl;exact aL rfl
open Go Go.Proofs Tryz Ord
def aM0:Tr:=.ret [(W 4 0)]
def bt8:Tr:=.split (.u 5 0) (eW 0 0 4 0 29 12 13 (eI 6 0 none 98 14 (.need (.callv (.u 1 0) [(W 7 0)] [none]) (.call ⟨.value (tT 11),#[(tT 15)],#[98]⟩) 4 true (.split (.u 8 0) aM0 (bI .add 3 8 1 4 0 3 (.back 0 [lV 3 0,lV 9 0])))))) (.ret [(WK (-1))])
def bs8:Tr:=dS 0 0 6 29 (.loop 0 [lK 0,lK 0] (cU .lss 3 8 7 4 0 2 0 0 bt8))
theorem aa1:aV prog f179 (fun _=>none) [.v none, .v none]=bs8:=by kernel_rfl
def bB1:Tr:=aZ 179 [(W 0 0),(W 1 0)] [none] [5,6] [29,143] 3 true (bI .geq 3 7 0 2 0 4 ZL)
theorem Rh:aV prog f81 (fun _=>none) [.v none, .v none]=bB1:=by kernel_rfl
abbrev cQ (p:List Rat):List aD:=[sQ p]
abbrev eQ (e:List (List Rat)):aD:=.slice 1 (e.map cQ)
def jN {α:Type} (c:α->Bool):List α->Nat->Int
 | [],_=>-1
 | x::xs,i=>if c x then (i:Int) else jN c xs (i+1)
theorem Fc {α:Type} (c:α->Bool):∀ (l:List α) (i:Nat),decide (0<=jN c l i)=l.any c
 | [],i=>rfl
 | x::xs,i=>by
   simp only [jN,List.any_cons];split
   .rename_i h;rw [h];simp
   .rename_i h;rw [Fc c xs (i+1)];simp [h]
theorem an4 (e:List (List Rat)) (g:Nat) (c:List Rat->Bool) (hc:∀ p∈e,aQ prog g [.one (sQ p)] (.ret [.one (.bool (c p))])) (hs:e.length<1099511627776):aQ prog 179 [(.one (eQ e):aJ),(.one (.fP g []):aJ)] (.ret [.one (.int .i64 (jN c e 0))]):=by
 refine eH func179 aa1 ?_;apply vn (aM sM (aK _)) rfl;refine bZ {i:Nat // i<=e.length/\jN c e 0=jN c (e.drop i) i} (fun g=>[.one (.int .i64 0), .one (.int .i64 g.1)]) (fun g=>e.length-g.1) ⟨0,dD _,rfl⟩ aX.rfl (fun _=>rfl) ?_;rintro ⟨i,hi,hf⟩;dsimp only [aE,aF] at hi hf ⊢;apply vn bQ rfl;refine vs _ rfl ?_ ?_<;>intro h3
 .obtain ⟨p,hp⟩:∃ p,e[i]? = some p:=⟨_,cC (by omega)⟩
  have hdrop:e.drop i=p::e.drop (i+1):=by
   rw [List.drop_eq_getElem_cons (by omega),(dR.1 hp).2]
  rw [hdrop,jN] at hf;apply vn (aH sM (by omega) (by omega) hp) rfl;apply vn (cH TK) rfl;apply zU (f:=g) (caps:=[]) rfl (hc p (gD hp)) rfl;dsimp only [aE,aF];refine pY (c p) rfl (fun h7=>?_) (fun h7=>?_)
  .rw [hf,if_pos h7];exact aL rfl
  apply vn (aB (by omega) (by omega)) rfl;dsimp only [aE,aF];exact bD rfl ⟨⟨i+1,by omega,by rw [hf,if_neg (by simp [h7])]⟩,aX.rfl,by show e.length-(i+1)<e.length-i;omega⟩
 rw [hf,List.drop_eq_nil_of_le (by omega),jN];exact aL rfl
theorem Tl (e:List (List Rat)) (g:Nat) (c:List Rat->Bool) (hc:∀ p∈e,aQ prog g [.one (sQ p)] (.ret [.one (.bool (c p))])) (hs:e.length<1099511627776):aQ prog 81 [(.one (eQ e):aJ),(.one (.fP g []):aJ)] (.ret [.one (.bool (e.any c))]):=by
 refine eH func81 Rh ?_;apply aA (an4 e g c hc hs) rfl;apply vn gJ rfl;dsimp only [aE,aF];rw [<-Fc c e 0];exact aL rfl
theorem oT {B:Nat} (hB:1<=B) {c:Rat} (hc:Fit B c):∀ ps:List Rat,(∀ q∈ps,Fit B q)->Fit (ps.length*(2*B+1)+1) (nK ps c)
 | [],_=>Fit.zero (by omega)
 | a::ps,h=>by
   have ih:=oT hB hc ps (fun q hq=>h q (List.mem_cons_of_mem _ hq));have:=(ih.mul hc).add (h a List.mem_cons_self);refine this.mono ?_;rw [List.length_cons,Nat.add_mul];omega
def eqR (e:List (List RQ)):List (List Rat):=e.map fun p=>p.map RQ.q
open Go Go.Proofs Tryz Ord
def aL2:Tr:=aZ 165 [(G3 0),(G3 1)] [(some 3),none] [8,9] [46,46] 55 false (.ret [(G3 2)])
theorem aD9:aV prog f181 (fun _=>none) [.v (some 3), .v (some 3)]=aL2:=by kernel_rfl
def aL4:Tr:=.ret [(G3 7)]
def bp3:Tr:=bI .add 3 5 1 0 0 3 (eW 1 0 2 0 98 4 6 (eI 3 0 (some 3) 46 7 (bI .add 3 9 1 0 0 3 (aZ 63 [(W 5 0)] [(some 3)] [10] [2] 46 true (aZ 76 [(G3 4),(G3 6)] [(some 3)] [8,11] [46,46] 46 true aL4)))))
theorem Tm:aV prog f193 (fun _=>none) [.v none, .ref 1]=bp3:=by kernel_rfl
def br8:Tr:=dS 0 0 3 98 (bI .sub 3 4 1 1 0 3 (.need (.prim [(W 2 0),(WK 0)] none) (.call ⟨.builtin .max,#[(tT 5),(.const (I3 0))],#[3,3]⟩) 3 false (aZ 159 [(W 3 0),(.one (.fP 193 [(.ref 0 [(.u 0 0)])]))] [none] [6,7] [3,165] 98 true aM0)))
theorem Yg:aV prog f124 (fun _=>none) [.v none]=br8:=by kernel_rfl
def bt2:Tr:=bI .eql 3 4 0 0 0 4 (.split (.u 2 0) aM8 (bI .sub 3 8 1 0 0 3 (eW 1 0 3 0 98 7 9 (eI 4 0 (some 3) 46 10 (aZ 63 [(W 0 0)] [(some 3)] [12] [2] 46 true (aZ 181 [(G3 5),(G3 6)] [(some 3)] [11,13] [46,46] 46 true aL4))))))
theorem Lf:aV prog f180 (fun _=>none) [.v none, .ref 1]=bt2:=by kernel_rfl
def bt3:Tr:=dS 0 0 3 98 (bI .add 3 4 1 1 0 3 (aZ 159 [(W 2 0),(.one (.fP 180 [(.ref 0 [(.u 0 0)])]))] [none] [5,6] [3,165] 98 true ZL))
theorem RR:aV prog f85 (fun _=>none) [.v none]=bt3:=by kernel_rfl
def yQ (a b:Rat):Rat:=if b=0 then 0 else a/b
theorem au6 (a b:Rat) (A B:Nat) (ha:Fit A a) (hb:Fit B b) (h:A+B<=34359738368:=by omega):aQ prog 181 [(qT a:aJ),(qT b:aJ)] (.ret [qT (yQ a b)]):=by
 refine eH func181 aD9 ?_;apply aA (VY a b A B ha hb h) rfl;exact aL rfl
def dvI (p:List Rat) (i:Nat):Rat:=p.getD (i+1) 0*(((i:Int)+1:Int):Rat)
def cM (p:List Rat):List Rat:=trim ((List.range (p.length-1)).map (dvI p))
theorem Tn (p:List Rat) (i A:Nat) (hA1:1<=A) (hl:p.length<1099511627776) (hp:∀ a∈p,Fit A a) (hA:A<=34359738000) (hi:i+1<p.length:=by omega):aQ prog 193 [(.one (.int .i64 i):aJ),(.one (.bH ([sQ p])):aJ)] (.ret [qT (dvI p i)]):=by
 refine dvr (ins:=[.v (.one (.int .i64 i)), .ref ([sQ p])]) func193 Tm ?_;apply vn (aB (by omega) (by omega)) rfl;dsimp only [aE,aF];apply vn (aH kH (by omega) (show ((i:Int)+1).toNat=i+1 by omega) (aI hi)) rfl;apply vn (aR cF (by decide) (by simp) (.inl rfl)) rfl;apply vn (aB (by omega) (by omega)) rfl;apply aA (wD ((i:Int)+1)) rfl;dsimp only [aE,aF];apply aA (fK (p.getD (i+1) 0) (((i:Int)+1:Int):Rat) A 62 (aC hp (i+1) hA1) (Fit.int (by omega) (by omega))) rfl;exact aL rfl
theorem zK (p:List Rat) (A:Nat) (hp:∀ a∈p,Fit A a) (hA1:1<=A:=by omega) (hl:p.length<1099511627776:=by omega) (hA:A<=34359738000:=by omega):aQ prog 124 [(.one (sQ p):aJ)] (.ret [.one (sQ (cM p))]):=by
 refine eH func124 Yg ?_;apply vn (aM kH (aK _)) rfl;apply vn (aG (by omega) (by omega)) rfl;apply vn (aq4 (k:=.i64) (a:=(p.length:Int)-1) (b:=0)) rfl;rw [show max ((p.length:Int)-1) 0=((p.length-1:Nat):Int) by omega];apply aA (Cd (p.length-1) 193 [.bH [sQ p]] (dvI p) (fun i hi=>Tn p i A hA1 hl hp hA) (by omega)) rfl;exact aL rfl
def igI (p:List Rat) (i:Nat):Rat:=if i=0 then 0 else yQ (p.getD (i-1) 0) ((i:Int):Rat)
def pE (p:List Rat):List Rat:=trim ((List.range (p.length+1)).map (igI p))
theorem LH (p:List Rat) (i A:Nat) (hA1:1<=A) (hi:i<p.length+1) (hp:∀ a∈p,Fit A a) (hA:A<=34359738000) (hl:p.length<1099511627776:=by omega):aQ prog 180 [(.one (.int .i64 i):aJ),(.one (.bH ([sQ p])):aJ)] (.ret [qT (igI p i)]):=by
 refine dvr (ins:=[.v (.one (.int .i64 i)), .ref ([sQ p])]) func180 Lf ?_;apply vn dP rfl;refine vs _ rfl ?_ ?_<;>intro h1
 .rw [igI,if_pos (by omega)];exact jL ⟨jV,trivial⟩
 apply vn (aG (by omega) (by omega)) rfl;dsimp only [aE,aF];apply vn (aH kH (m:=i-1) (by omega) (by omega) (aI (show i-1<p.length by omega))) rfl;apply vn (aR cF (by decide) (by simp) (.inl rfl)) rfl;apply aA (wD (i:Int)) rfl;apply aA (au6 (p.getD (i-1) 0) ((i:Int):Rat) A 62 (aC hp (i-1) hA1) (Fit.int (by omega) (by omega))) rfl;dsimp only [aE,aF];rw [igI,if_neg (by omega)];exact aL rfl
theorem AI (p:List Rat) (A:Nat) (hp:∀ a∈p,Fit A a) (hA1:1<=A:=by omega) (hl:p.length<1099511627000:=by omega) (hA:A<=34359738000:=by omega):aQ prog 85 [(.one (sQ p):aJ)] (.ret [.one (sQ (pE p))]):=by
 refine eH func85 RR ?_;apply vn (aM kH (aK _)) rfl;apply vn (aB (by omega) (by omega)) rfl;apply aA (Cd (p.length+1) 180 [.bH [sQ p]] (igI p) (fun i hi=>LH p i A hA1 hi hp hA) (by omega)) rfl;exact aL rfl
def scI (p:List Rat) (k:Rat) (i:Nat):Rat:=p.getD i 0*k
def wF (p:List Rat) (k:Rat):List Rat:=trim ((List.range p.length).map (scI p k))
theorem VJ (p:List Rat) (k:Rat) (i A B:Nat) (hA1:1<=A) (hi:i<p.length) (hl:p.length<1099511627776) (hp:∀ a∈p,Fit A a) (hk:Fit B k) (hA:A+B<=34359738000):aQ prog 194 [(.one (.int .i64 i):aJ),(.one (.bH ([sQ p])):aJ),(.one (.bH (qC k)):aJ)] (.ret [qT (scI p k i)]):=by
 refine dvr (ins:=[.v (.one (.int .i64 i)), .ref ([sQ p]), .ref (qC k)]) func194 Vq ?_;apply vn (aH kH (by omega) (Int.toNat_natCast i) (aI hi)) rfl;apply vn (aR cF (by decide) (by simp) (.inl rfl)) rfl;apply aA (fK (p.getD i 0) k A B (aC hp i hA1) hk) rfl;exact aL rfl
theorem ED (p:List Rat) (k:Rat) (A B:Nat) (hA1:1<=A) (hp:∀ a∈p,Fit A a) (hk:Fit B k) (hl:p.length<1099511627776:=by omega) (hA:A+B<=34359738000:=by omega):aQ prog 125 [(.one (sQ p):aJ),(qT k:aJ)] (.ret [.one (sQ (wF p k))]):=by
 refine eH func125 ZI ?_;apply vn (aM kH (aK _)) rfl;apply aA (Cd p.length 194 [.bH [sQ p], .bH (qC k)] (scI p k) (fun i hi=>VJ p k i A B hA1 hi hl hp hk hA) (by omega)) rfl;exact aL rfl
def rAt (p:List RQ) (i:Nat):Rat:=(p.getD i RQ.nil).q
theorem aZ7 {p:List RQ} {i:Nat} {a:RQ} (h:p[i]? = some a):rAt p i=a.q:=by rw [rAt,iP,h];rfl
theorem aE9 (p:List RQ) (i:Nat):rAt p i=(p.map RQ.q).getD i 0:=by
 rw [rAt,iP,iP,dL];cases p[i]? <;> rfl
open Go Go.Proofs Tryz Ord
theorem kO {a b:Rat} {A B:Nat} (ha:Fit A a) (hb:Fit B b) (hA:1<=A:=by omega):Fit (A+B) (yQ a b):=by
 unfold yQ;split
 .exact Fit.zero (by omega)
 .exact ha.div hb
theorem rK {A:Nat} {p:List Rat} (h:∀ a∈p,Fit A a):∀ a∈trim p,Fit A a:=fun a ha=>h a (List.mem_of_mem_take ha)
theorem Qu {A:Nat} {p:List Rat} (hA:1<=A) (h:∀ a∈p,Fit A a) (hl:p.length<=1000:=by omega):∀ a∈pE p,Fit (A+12) a:=by
 refine rK fun a ha=>?_;obtain ⟨i,hi,rfl⟩:=eM.1 ha;have hi:=List.mem_range.1 hi;rw [igI];split
 .exact Fit.zero (by omega)
 .exact kO (aC h _ hA) (Fit.int (by omega) (by omega)) hA
theorem Pe (p:List Rat):(pE p).length<=p.length+1:=by
 have h:=iA ((List.range (p.length+1)).map (igI p));have h2:=kV (z:=zr) ((List.range (p.length+1)).map (igI p));rw [pE,h]
 simpa using h2
theorem pZ {A:Nat} {p:List Rat} (hA:1<=A) (h:∀ a∈p,Fit A a) (hl:p.length<=1000):∀ a∈cM p,Fit (A+12) a:=by
 refine rK fun a ha=>?_;obtain ⟨i,hi,rfl⟩:=eM.1 ha;have hi:=List.mem_range.1 hi;exact (aC h _ hA).mul (Fit.int (by omega) (by omega))
theorem lR (p:List Rat):(cM p).length<=p.length-1:=by
 have h:=iA ((List.range (p.length-1)).map (dvI p));have h2:=kV (z:=zr) ((List.range (p.length-1)).map (dvI p));rw [cM,h]
 simpa using h2
def iL (st:Bool) (a b:Rat):Bool:=decide (a<b) || (!st&&decide (a=b))
def kE (st:Bool) (l:List Rat):Bool:=(List.range (l.length-1)).all fun i=>iL st (l.getD i 0) (l.getD (i+1) 0)
theorem Zl {st:Bool} {l:List Rat} (h:∀ i,i+1<l.length->iL st (l.getD i 0) (l.getD (i+1) 0)=true):kE st l=true:=by
 rw [kE,List.all_eq_true];intro i hi;exact h i (by have:=List.mem_range.1 hi;omega)
theorem Py {st:Bool} {l:List Rat} (h:kE st l=true) (i:Nat) (hi:i+1<l.length:=by omega):iL st (l.getD i 0) (l.getD (i+1) 0)=true:=by
 rw [kE,List.all_eq_true] at h;exact h i (List.mem_range.2 (by omega))
theorem UL {st:Bool} {l:List Rat} (i:Nat) (hi:i+1<l.length) (h:iL st (l.getD i 0) (l.getD (i+1) 0)=false):kE st l=false:=by
 cases hr:kE st l with
 | false=>rfl
 | true=>rw [Py hr i hi] at h;cases h
theorem ZG {l:List Rat} (h:kE true l=true):∀ (d i:Nat),i+d+1<l.length->l.getD i 0<l.getD (i+d+1) 0
 | 0,i,hi=>by
   have:=Py h i hi
   simpa [iL] using this
 | d+1,i,hi=>by
   have h1:=ZG h d i (by omega);have h2:=Py h (i+d+1);have h3:l.getD (i+d+1) 0<l.getD (i+d+1+1) 0:=by simpa [iL] using h2
   exact Std.lt_trans h1 h3
theorem Cc {l:List Rat} (h:kE true l=true) {i j:Nat} (hij:i<j) (hj:j<l.length):l.getD i 0<l.getD j 0:=by
 have:=ZG h (j-i-1) i (by omega)
 rwa [show i+(j-i-1)+1=j by omega] at this
open Go Go.Proofs Tryz Ord
theorem at1:aV prog f112 (fun _=>none) [.v (some 3), .v (some 3)]=aL2:=by kernel_rfl
def be9:Tr:=aZ 63 [(W 0 0)] [(some 3)] [3] [2] 46 true (.ret [(G3 1)])
theorem ah5:aV prog f113 (fun _=>none) [.v none]=be9:=by kernel_rfl
def Xz:Tr:=.ret [(tF false)]
def WV:Tr:=bI .gtr 3 23 0 11 0 4 (.split (.u 12 0) Xz (.split (.u 1 0) (bI .eql 3 28 0 11 0 4 (.split (.u 13 0) Xz (bI .add 3 11 1 3 0 3 (.back 0 [lV 2 0,lV 14 0])))) (bI .add 3 11 1 3 0 3 (.back 0 [lV 2 0,lV 13 0]))))
def Xq:Tr:=.ret [(tF true)]
def ba6:Tr:=.split (.u 5 0) (bI .sub 3 14 1 3 0 3 (eW 0 0 6 0 28 13 15 (eI 7 0 (some 3) 46 16 (eW 0 0 3 0 28 18 19 (eI 9 0 (some 3) 46 20 (aZ 67 [(G3 8),(G3 10)] [none] [17,21] [46,46] 3 true WV)))))) Xq
def aX9:Tr:=.loop 0 [(.w (.one (.c (.k (.bool false))))),lK 1] (dS 0 0 8 28 (cU .lss 3 7 9 3 0 4 0 4 ba6))
theorem Vt:aV prog f90 (fun _=>none) [.v none, .v none]=aX9:=by kernel_rfl
def aT9:Tr:=.split (.u 5 0) (bI .sub 3 14 1 3 0 3 (eW 0 0 6 0 32 13 15 (eI 7 0 (some 4) 51 16 (eW 0 0 3 0 32 18 19 (eI 9 0 (some 4) 51 20 (aZ 41 [(G4 8),(G4 10)] [none] [17,21] [51,51] 3 true WV)))))) Xq
def bi6:Tr:=.loop 0 [(.w (.one (.c (.k (.bool false))))),lK 1] (dS 0 0 8 32 (cU .lss 3 7 9 3 0 4 0 4 aT9))
theorem ab8:aV prog f60 (fun _=>none) [.v none, .v none]=bi6:=by kernel_rfl
def aP0:Tr:=aZ 83 [(W 0 0)] [none] [3] [98] 3 true (bI .gtr 3 4 40 1 0 4 aJ8)
theorem Ai:aV prog f89 (fun _=>none) [.v none]=aP0:=by kernel_rfl
def CT:Tr:=.ret [(WK 2)]
def aB8:Tr:=dS 0 0 25 28 (bI .sub 3 26 1 8 0 3 (cU .neq 3 23 27 7 0 9 0 4 (.split (.u 10 0) CT (aZ 81 [(W 0 1),(.one (.fP 89 []))] [none] [32,33] [29,143] 4 true (.split (.u 11 0) CT (.ret [(WK 0)]))))))
def ba4:Tr:=dS 0 0 10 28 (bI .gtr 3 11 60 3 0 4 (.split (.u 4 0) CT (.need (.call 90 [(W 0 0),(tF true)] [none]) (.call ⟨.value (.func 90),#[(tT 16),(.const (.bool true))],#[28,4]⟩) 4 false (.need (.prim [(W 5 0)] none) (.unOp .not 4 (tT 17)) 4 false (.split (.u 6 0) CT (dS 0 1 22 29 aB8))))))
def bh9:Tr:=dS 0 0 5 28 (bI .lss 3 6 2 1 0 4 (.split (.u 2 0) CT ba4))
theorem GS:aV prog f22 (fun _=>none) [.v (some 2)]=bh9:=by kernel_rfl
theorem iZ (a b:Rat) (A B:Nat) (ha:Fit A a) (hb:Fit B b) (h:A+B<=34359738368:=by omega):aQ prog 112 [(qT a:aJ),(qT b:aJ)] (.ret [qT (yQ a b)]):=by
 refine eH func112 at1 ?_;apply aA (VY a b A B ha hb h) rfl;exact aL rfl
theorem dE (n:Int) (h1:-9223372036854775808<=n:=by omega) (h2:n<9223372036854775808:=by omega):aQ prog 113 [(.one (.int .i64 n):aJ)] (.ret [qT (n:Rat)]):=by
 refine eH func113 ah5 ?_;apply aA (wD n h1 h2) rfl;exact aL rfl
theorem bb5 {a b:Rat}:gG a b<=0↔a<=b:=by
 unfold gG;by_cases h1:a<b
 .rw [if_pos h1];exact ⟨fun _=>by grind,fun _=>by omega⟩
 .rw [if_neg h1];by_cases h2:b<a
  .rw [if_pos h2];exact ⟨fun h=>by omega,fun h=>by grind⟩
  .rw [if_neg h2];exact ⟨fun _=>by grind,fun _=>by omega⟩
theorem wW {a b:Rat}:gG a b<0↔a<b:=by
 unfold gG;by_cases h1:a<b
 .rw [if_pos h1];exact ⟨fun h=>h1,fun h=>by omega⟩
 .rw [if_neg h1];by_cases h2:b<a
  .rw [if_pos h2];exact ⟨fun _=>by omega,fun h=>absurd h h1⟩
  .rw [if_neg h2];exact ⟨fun h=>by omega,fun h=>absurd h h1⟩
theorem WU {a b:Rat}:gG a b>0↔b<a:=by
 have:=bb5 (a:=a) (b:=b)
 constructor
 .intro h;have h2:¬ a<=b:=fun e=>by have:=this.2 e;omega
  grind
 .intro h;have h2:¬ gG a b<=0:=fun e=>by have:=this.1 e;grind
  omega
theorem UP {a b:Rat}:gG a b=0↔a=b:=by
 have h1:=@WU a b;have h2:=@wW a b
 constructor
 .intro h;have e1:¬ b<a:=fun h'=>by have:=h1.2 h';omega
  have e2:¬ a<b:=fun h'=>by have:=h2.2 h';omega
  exact Std.le_antisymm (Rat.not_lt.1 e1) (Rat.not_lt.1 e2)
 .intro h;subst h;have e1:¬ 0<gG a a:=fun h'=>Rat.lt_irrefl (h1.1 h');have e2:¬ gG a a<0:=fun h'=>Rat.lt_irrefl (h2.1 h');omega
theorem XA {st:Bool} {a b:Rat} (h:0<gG a b):iL st a b=false:=by
 have h:=WU.1 h;have h1:¬ a<b:=fun h'=>Rat.lt_irrefl (Std.lt_trans h h');have h2:¬ a=b:=fun e=>by rw [e] at h;exact Rat.lt_irrefl h
 simp [iL,h1,h2]
theorem step_eq {a b:Rat} (h:gG a b=0):iL true a b=false:=by
 have h:=UP.1 h;subst h;have h1:¬ a<a:=Rat.lt_irrefl;simp [iL,h1]
theorem wN {st:Bool} {a b:Rat} (h:¬ 0<gG a b) (h0:st=true->¬ gG a b=0):iL st a b=true:=by
 rcases Int.lt_trichotomy (gG a b) 0 with h1 | h1 | h1
 .have:=wW.1 h1;simp [iL,this]
 .have h2:st=false:=by cases st;rfl;exact absurd h1 (h0 rfl)
  have:=UP.1 h1;simp [iL,this,h2]
 .exact absurd h1 h
def PD (st:Bool) (l:List Rat) (i:Nat):Prop:=1<=i/\i<=max l.length 1/\∀ j,j+1<i->iL st (l.getD j 0) (l.getD (j+1) 0)=true
theorem PD.next {st:Bool} {l:List Rat} {i:Nat} (h:PD st l i) (hi:i<l.length) (hs:iL st (l.getD (i-1) 0) (l.getD i 0)=true):PD st l (i+1):=
 ⟨by omega,by omega,fun j hj=>by
  have h1:=h.1;rcases Nat.lt_or_ge (j+1) i with h2 | h2
  .exact h.2.2 j h2
  .obtain rfl:j=i-1:=by omega
   rwa [show i-1+1=i by omega]⟩
theorem PD.no {st:Bool} {l:List Rat} {i:Nat} (h:PD st l i) (hi:i<l.length) (hs:iL st (l.getD (i-1) 0) (l.getD i 0)=false):kE st l=false:=
 UL (i-1) (by have:=h.1;omega) (by rwa [show i-1+1=i by have:=h.1;omega])
theorem PD.all {st:Bool} {l:List Rat} {i:Nat} (h:PD st l i) (hi:¬ i<l.length):kE st l=true:=
 Zl fun j hj=>h.2.2 j (by have:=h.1;omega)
theorem vQ (l:List Rat) (st:Bool) (A:Nat) (hp:∀ a∈l,Fit A a) (hA1:1<=A) (hA:A<=1073741824) (hl:l.length<1099511627776:=by omega):aQ prog 90 [(.one (sQ l):aJ),(.one (.exact (.bool st)):aJ)] (.ret [.one (.bool (kE st l))]):=by
 refine eH func90 Vt ?_;refine bZ {i:Nat // PD st l i} (fun g=>[.one (.bool false), .one (.int .i64 (g.1:Int))]) (fun g=>l.length+1-g.1) ⟨1,by omega,by omega,fun j hj=>by omega⟩ aX.rfl (fun _=>rfl) ?_;rintro ⟨i,hi⟩;have hi1:=hi.1;dsimp only [aE,aF] at ⊢;apply vn (aM bG (aK _)) rfl;apply vn bQ rfl;refine vs _ rfl ?_ ?_<;>intro h3
 .apply vn (aG (by omega) (by omega)) rfl;dsimp only [aE,aF];apply vn (aH bG (m:=i-1) (by omega) (by omega) (aI (show i-1<l.length by omega))) rfl;apply vn (aR cF (by decide) (by simp) (.inl rfl)) rfl;dsimp only [aE,aF];apply vn (aH bG (m:=i) (by omega) (Int.toNat_natCast i) (aI (show i<l.length by omega))) rfl;apply vn (aR cF (by decide) (by simp) (.inl rfl)) rfl;apply aA (kL (l.getD (i-1) 0) (l.getD i 0) A A (aC hp _ hA1) (aC hp _ hA1)) rfl;apply vn gH rfl;dsimp only [aE,aF];refine vs _ rfl ?_ ?_<;>intro h11
  .rw [hi.no (by omega) (XA h11)];exact aL rfl
  refine pY st rfl (fun h13=>?_) (fun h13=>?_)
  .apply vn dP rfl;refine vs _ rfl ?_ ?_<;>intro h15
   .subst h13;rw [hi.no (by omega) (step_eq h15)];exact aL rfl
   apply vn (aB (by omega) (by omega)) rfl;dsimp only [aE,aF];exact bD rfl ⟨⟨i+1,hi.next (by omega) (wN h11 fun _=>h15)⟩,aX.rfl,by show l.length+1-(i+1)<l.length+1-i;omega⟩
  apply vn (aB (by omega) (by omega)) rfl;dsimp only [aE,aF];exact bD rfl ⟨⟨i+1,hi.next (by omega) (wN h11 fun h=>by rw [h13] at h;cases h)⟩,aX.rfl,by show l.length+1-(i+1)<l.length+1-i;omega⟩
 rw [hi.all (by omega)];exact aL rfl
open Go Go.Proofs Tryz Ord
theorem ai2 (l:List RQ) (st:Bool) (A:Nat) (hl:l.length<1099511627776) (hp:∀ a∈l,Fit A a.q) (hA:A<=1073741824):aQ prog 60 [(.one (sR l):aJ),(.one (.exact (.bool st)):aJ)] (.ret [.one (.bool (kE st (l.map RQ.q)))]):=by
 refine eH func60 ab8 ?_;have hlm:(l.map RQ.q).length=l.length:=aK _;have hg:∀ i a,l[i]? = some a->(l.map RQ.q).getD i 0=a.q:=fun i a h=>by rw [<-aE9,aZ7 h]
 refine bZ {i:Nat // PD st (l.map RQ.q) i} (fun g=>[.one (.bool false), .one (.int .i64 (g.1:Int))]) (fun g=>l.length+1-g.1) ⟨1,by omega,by omega,fun j hj=>by omega⟩ aX.rfl (fun _=>rfl) ?_;rintro ⟨i,hi⟩;have hi1:=hi.1;dsimp only [aE,aF] at ⊢;apply vn (aM VC (aK _)) rfl;apply vn bQ rfl;refine vs _ rfl ?_ ?_<;>intro h3
 .apply vn (aG (by omega) (by omega)) rfl;dsimp only [aE,aF];obtain ⟨a,ha⟩:∃ a,l[i-1]? = some a:=⟨_,cC (by omega)⟩
  obtain ⟨b,hb⟩:∃ b,l[i]? = some b:=⟨_,cC (by omega)⟩
  have ea:=hg _ _ ha;have eb:=hg _ _ hb;apply vn (aH VC (m:=i-1) (by omega) (by omega) ha) rfl;apply vn (aR br5 (by decide) (by simp) (.inl rfl)) rfl;apply vn (aH VC (m:=i) (by omega) (Int.toNat_natCast i) hb) rfl;apply vn (aR br5 (by decide) (by simp) (.inl rfl)) rfl;dsimp only [aE,aF];apply aA (aO8 a b A A (hp a (gD ha)) (hp b (gD hb))) rfl;rw [<-ea,<-eb];apply vn gH rfl;refine vs _ rfl ?_ ?_<;>intro h11
  .rw [hi.no (by omega) (XA h11)];exact aL rfl
  refine pY st rfl (fun h13=>?_) (fun h13=>?_)
  .apply vn dP rfl;refine vs _ rfl ?_ ?_<;>intro h15
   .subst h13;rw [hi.no (by omega) (step_eq h15)];exact aL rfl
   apply vn (aB (by omega) (by omega)) rfl;dsimp only [aE,aF];exact bD rfl ⟨⟨i+1,hi.next (by omega) (wN h11 fun _=>h15)⟩,aX.rfl,by show l.length+1-(i+1)<l.length+1-i;omega⟩
  apply vn (aB (by omega) (by omega)) rfl;dsimp only [aE,aF];exact bD rfl ⟨⟨i+1,hi.next (by omega) (wN h11 fun h=>by rw [h13] at h;cases h)⟩,aX.rfl,by show l.length+1-(i+1)<l.length+1-i;omega⟩
 rw [hi.all (by omega)];exact aL rfl
def XS (p:List Rat):Bool:=decide ((sK zr p:Int)-1>40)
theorem zZ (p:List Rat) (hs:p.length<1099511627776):aQ prog 89 [(.one (sQ p):aJ)] (.ret [.one (.bool (XS p))]):=by
 refine eH func89 Ai ?_;apply aA (YJ p hs) rfl;apply vn gH rfl;exact aL rfl
def Ec (ks:List Rat) (ps:List (List Rat)):Bool:=decide (2<=ks.length)&&(decide (ks.length<=60)&&(kE true ks&&(decide (ps.length+1=ks.length) && !ps.any XS)))
theorem rM (ks:List Rat) (ps:List (List Rat)) (A:Nat) (hp:∀ a∈ks,Fit A a) (hA1:1<=A) (hps:∀ p∈ps,p.length<1099511627776) (hl:ks.length<1099511627776:=by omega) (hA:A<=1073741824:=by omega) (hs:ps.length<1099511627776:=by omega):aQ prog 22 [(.agg [sQ ks,eQ ps]:aJ)] (.ret [.one (.int .i64 (if Ec ks ps then 0 else 2))]):=by
 refine eH func22 GS ?_;apply vn (aM bG (aK _)) rfl;apply vn bQ rfl;refine vs _ rfl ?_ ?_<;>intro h2
 .rw [Ec,decide_eq_false (by omega)];exact aL rfl
 apply vn (aM bG (aK _)) rfl;apply vn gH rfl;dsimp only [aE,aF];refine vs _ rfl ?_ ?_<;>intro h6
 .rw [Ec,decide_eq_true (show 2<=ks.length by omega),decide_eq_false (by omega)];exact aL rfl
 apply aA (vQ ks true A hp hA1 hA hl) rfl;apply vn gX rfl;refine pY (!kE true ks) rfl (fun h10=>?_) (fun h10=>?_)
 .rw [Ec,decide_eq_true (show 2<=ks.length by omega),decide_eq_true (show ks.length<=60 by omega),show kE true ks=false by simpa using h10];exact aL rfl
 apply vn (aM sM (aK _)) rfl;apply vn (aM bG (aK _)) rfl;dsimp only [aE,aF];apply vn (aG (by omega) (by omega)) rfl;apply vn fG rfl;refine vs _ rfl ?_ ?_<;>intro h16
 .rw [Ec,decide_eq_true (show 2<=ks.length by omega),decide_eq_true (show ks.length<=60 by omega),show kE true ks=true by simpa using h10,decide_eq_false (by omega)];exact aL rfl
 apply aA (Tl ps 89 XS (fun p h=>zZ p (hps p h)) hs) rfl;refine pY (ps.any XS) rfl (fun h19=>?_) (fun h19=>?_)
 .rw [Ec,decide_eq_true (show 2<=ks.length by omega),decide_eq_true (show ks.length<=60 by omega),show kE true ks=true by simpa using h10,decide_eq_true (show ps.length+1=ks.length by omega),h19];exact aL rfl
 rw [Ec,decide_eq_true (show 2<=ks.length by omega),decide_eq_true (show ks.length<=60 by omega),show kE true ks=true by simpa using h10,decide_eq_true (show ps.length+1=ks.length by omega),h19];exact aL rfl
open Go Go.Proofs Tryz Ord
def bd1:Tr:=.need (.prim [(W 0 0),(.one (.c (.k (.slice none 0 0))))] none) (.binOp .eql 28 (tT 3) (.const (.slice none 0 0)) 28) 4 false (.split (.u 1 0) ab6 (.need (.lit 3 []) (.buildSlice 28 0 #[]) 28 false (.need (.app 3 56 (some 2) (some (.u 0 0)) none) (.call ⟨.builtin .append,#[(tT 5),(tT 6)],#[28,28]⟩) 28 false (.ret [(.one (.c (.sr 3 3)))]))))
theorem Nt:aV prog f84 (fun _=>none) [.v none]=bd1:=by kernel_rfl
def aV2:Tr:=eW 0 1 3 0 29 11 13 (eI 7 0 none 98 15 (aZ 124 [(W 8 0)] [none] [19] [98] 98 true (.need (.lit 1 [[(.u 9 0)]]) (.buildSlice 29 1 #[(0,(tT 20))]) 29 false (.need (.app 1 24 (some 5) none (some 10)) (.call ⟨.builtin .append,#[(tT 18),(tT 21)],#[29,29]⟩) 29 false (bI .add 3 13 1 3 0 3 (.back 0 [lV 12 0,lV 4 0, .row 11]))))))
def aR0:Tr:=aZ 84 [(W 0 0)] [none] [7] [28] 28 true (dS 0 1 11 29 (.loop 0 [lK 0,lV 1 0, .nilrow] (cU .lss 3 13 12 3 0 2 0 0 (.split (.u 6 0) aV2 (.ret [(.agg [(U 4 0),(.c (.sr 1 5))])])))))
theorem YR:aV prog f80 (fun _=>none) [.v (some 2)]=aR0:=by kernel_rfl
theorem VE (ts:List (List aD)) (hs:ts.length<1099511627776):aQ prog 84 [(.one (.nnS 3 ts):aJ)] (.ret [.one (.slice 3 ts)]):=by
 refine eH func84 Nt ?_;apply vn (ak9 bG) rfl;refine pY false rfl (fun h=>by cases h) (fun _=>?_);apply eK (us:=[]) rfl;refine BC (ts:=[]) (us:=ts) (vs:=ts) rfl (.inr aD.Sub.nn) rfl (by omega) (by simp only [maxLen];omega) ?_;exact aL rfl
theorem UN  :aQ prog 84 [(.one .af9:aJ)] (.ret [.one (.slice 3 [])]):=by
 refine eH func84 Nt ?_;apply vn (ao0 bG) rfl;refine pY true rfl (fun _=>?_) (fun h=>by cases h);exact jL ⟨aD.Sub.nil,trivial⟩
theorem yR (ts:List (List aD)) (hs:ts.length<1099511627776):aQ prog 84 [.one (.slice 3 ts)] (.ret [.one (.slice 3 ts)]):=
 Fl (fun e=>by subst e;exact UN) (VE ts hs)
abbrev mW (ps:List (List Rat)):List (List Rat):=ps.map cM
theorem tA (ks:List Rat) (ps:List (List Rat)) (A:Nat) (hs:ps.length<1099511627776) (hps:∀ p∈ps,p.length<1099511627776/\∀ a∈p,Fit A a) (hA1:1<=A:=by omega) (hA:A<=1073741824:=by omega) (hl:ks.length<1099511627776:=by omega):aQ prog 80 [(.agg [sQ ks,eQ ps]:aJ)] (.ret [.agg [sQ ks,eQ (mW ps)]]):=by
 refine eH func80 YR ?_;apply aA (yR (rQ ks) (by rw [aK];exact hl)) rfl;apply vn (aM sM (aK _)) rfl;refine bZ {i:Nat // i<=ps.length} (fun g=>[.one (.int .i64 (g.1:Int)), .one (sQ ks), .rows ((mW (ps.take g.1)).map cQ)]) (fun g=>ps.length-g.1) ⟨0,dD _⟩ aX.rfl (fun _=>rfl) ?_;rintro ⟨i,hi⟩;dsimp only [aE,aF] at hi ⊢;apply vn bQ rfl;refine vs _ rfl ?_ ?_<;>intro h4
 .obtain ⟨p,hp⟩:∃ p,ps[i]? = some p:=⟨_,cC (by omega)⟩
  have hpp:=hps p (gD hp);have hll:(mW (ps.take i)).length<=i:=by simp;omega
  apply vn (aH sM (by omega) (by omega) hp) rfl;apply vn (cH TK) rfl;apply aA (zK p A hpp.2 hA1 hpp.1) rfl;dsimp only [aE,aF];apply eK (us:=[cQ (cM p)]) rfl;refine kX (xs:=mW (ps.take i)) (x:=cM p) (f:=cQ) rfl rfl (by omega) (by simp only [maxLen];omega) ?_;rw [zF (f:=cM) hp];apply vn (aB (by omega) (by omega)) rfl;dsimp only [aE,aF];exact bD rfl ⟨⟨i+1,by omega⟩,aX.rfl,by show ps.length-(i+1)<ps.length-i;omega⟩
 rw [show i=ps.length by omega,List.take_length];exact aL rfl
open Go Go.Proofs Tryz Ord
end Go.Sy
