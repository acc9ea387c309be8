/- Part. -/
import Derived.Test.YtacgmapjhpghkaaGreatDoorQb
set_option linter.all false
namespace Go.Sy
open Go Go.Proofs Tryz Ord
def aF2:Tr:=eW 0 0 6 0 28 40 41 (eI 19 0 (some 3) 46 42 (aZ 79 [(W 14 0),(G3 20)] [(some 3)] [38,43] [98,46] 46 false (aZ 86 [(G3 18),(G3 21)] [(some 3)] [37,44] [46,46] 46 true (aZ 88 [(.agg [(U 7 0),(U 8 0),(U 9 0)]),(G3 22)] [(some 3)] [29,45] [46,46] 46 true (bI .add 3 20 1 6 0 3 (.back 0 [lV 24 0,lV 23 0,lV 23 1,lV 23 2]))))))
def aA8:Tr:=eI 11 0 none 98 23 (aZ 64 [(W 12 0),(W 12 0)] [none] [25,26] [98,98] 98 true (aZ 85 [(W 13 0)] [none] [27] [98] 98 true (bI .add 3 33 1 6 0 3 (eW 0 0 15 0 28 32 34 (eI 16 0 (some 3) 46 35 (aZ 79 [(W 14 0),(G3 17)] [(some 3)] [30,36] [98,46] 46 false aF2))))))
def bg1:Tr:=aZ 80 [(G2 0)] [(some 2)] [15] [31] 31 false (aZ 80 [(G2 3)] [(some 2)] [16] [31] 31 false (dS 4 1 18 29 (.loop 0 [lK 0,lN,(.w (.one (.c (.k (.bool false))))),lN] (cU .lss 3 20 19 6 0 5 0 0 (.split (.u 10 0) (eW 4 1 6 0 29 18 20 aA8) (.ret [(.agg [(U 7 0),(U 8 0),(U 9 0)]),(WK 0)]))))))
def aT6:Tr:=aZ 22 [(G2 0)] [none] [9] [31] 54 true (bI .neq 54 11 0 1 0 4 (.split (.u 2 0) (.ret [(.agg [tN,(tE (.bool false)),tN]),(W 1 0)]) bg1))
theorem XI:aV prog f20 (fun _=>none) [.v (some 2)]=aT6:=by kernel_rfl
theorem Wg {A:Nat}:∀ {p:List Rat},(∀ a∈p,Fit A a)->∃ D,D≠0/\D<=2^(A*p.length)/\∀ a∈p,Bd D (2^A-1) a
 | [],_=>⟨1,by omega,Nat.one_le_two_pow,fun a h=>by cases h⟩
 | x::p,h=>by
   obtain ⟨D,h0,hD,hb⟩:=Wg (p:=p) fun a ha=>h a (List.mem_cons_of_mem _ ha);have hx:=h x List.mem_cons_self;have hden:=x.den_pos;refine ⟨x.den*D,Nat.mul_ne_zero (by omega) h0,?_,fun a ha=>?_⟩
   .rw [List.length_cons,Nat.mul_add,Nat.mul_one,Nat.add_comm,Nat.pow_add];exact Nat.mul_le_mul (Nat.le_of_lt hx.2) hD
   .rcases List.mem_cons.1 ha with rfl | ha
    .refine ⟨Nat.dvd_mul_right _ _,Nat.le_trans ?_ (Nat.le_mul_of_pos_right _ hden)⟩;have:=hx.1;omega
    .exact (hb a ha).mono (Nat.dvd_mul_left _ _) (aY _)
theorem Of {A B:Nat} {p q:List Rat} (hp:∀ a∈p,Fit A a) (hq:∀ a∈q,Fit B a) (hl:p.length<=100) :
  ∃ D E,D≠0/\E≠0/\(∀ a∈p,Bd D (2^A-1) a)/\(∀ a∈q,Bd E (2^B-1) a)/\D*E*((p.length+1)*((2^A-1+1)*(2^B-1+1)))<2^(A*(p.length+1)+B*(q.length+1)+7):=by
 obtain ⟨D,h0,hD,h1⟩:=Wg hp;obtain ⟨E,h2,hE,h3⟩:=Wg hq;refine ⟨D,E,h0,h2,h1,h3,?_⟩;have ha:=Nat.two_pow_pos A;have hb:=Nat.two_pow_pos B;rw [Nat.sub_add_cancel ha,Nat.sub_add_cancel hb,show A*(p.length+1)+B*(q.length+1)+7=(A*p.length+B*q.length)+(7+(A+B)) by rw [Nat.mul_add,Nat.mul_add];omega,Nat.pow_add,Nat.pow_add 2 (A*p.length),Nat.pow_add 2 7,Nat.pow_add 2 A];refine Nat.mul_lt_mul_of_le_of_lt (Nat.mul_le_mul hD hE) ?_ (Nat.mul_pos (Nat.two_pow_pos _) (Nat.two_pow_pos _));exact Nat.mul_lt_mul_of_lt_of_le (by show _<128;omega) (aY _) (Nat.mul_pos ha hb)
theorem BO (p q:List Rat) (A B:Nat) (hp:∀ a∈p,Fit A a) (hq:∀ a∈q,Fit B a) (hl:p.length<=100:=by omega) (hl2:q.length<=100:=by omega) (hB:A*(p.length+1)+B*(q.length+1)+7<=8589934592:=by omega):aQ prog 64 [.one (sQ p), .one (sQ q)] (.ret [.one (sQ (eF p q))]):=by
 obtain ⟨D,E,h0,h1,h2,h3,h4⟩:=Of hp hq hl;exact VK p q D E _ _ _ h0 h1 h2 h3 h4 hB
theorem jY {A B:Nat} {p q:List Rat} (hp:∀ a∈p,Fit A a) (hq:∀ a∈q,Fit B a) (hl:p.length<=100):∀ a∈eF p q,Fit (A*(p.length+1)+B*(q.length+1)+7) a:=by
 intro a ha;unfold eF at ha;split at ha
 .cases ha
 .rename_i hne;obtain ⟨D,E,h0,h1,h2,h3,h4⟩:=Of hp hq hl;obtain ⟨_,_,f3,_⟩:=EA h0 h1 h4;have hpos:0<p.length:=List.length_pos_iff.2 fun e=>hne (.inl e);refine f3 a (p.length-1) (by omega) ?_;have hb:=xD h0 h1 h2 h3 p.length a (List.mem_of_mem_take ha);generalize (2^A-1)*(2^B-1)=X at hb ⊢
  rwa [show (p.length-1)*X+X=p.length*X by rw [<-Nat.succ_mul,show (p.length-1).succ=p.length by omega]]
theorem kD (p q:List Rat):(eF p q).length<=p.length+q.length-1:=by
 unfold eF;split
 .simp
 .have h:=iA (mulL p q p.length);have h2:=kV (z:=zr) (mulL p q p.length);rw [gL] at h2;rw [h];exact h2
theorem Ed {α β:Type} {R:α->β->Prop} {a:α} {b:β} (h:R a b):∀ n,bB R (List.replicate n a) (List.replicate n b)
 | 0=>trivial
 | n+1=>⟨h,Ed h n⟩
def yO (ps:List (List Rat)) (i:Nat):List Rat:=eF ((mW (mW ps)).getD i []) ((mW (mW ps)).getD i [])
def Zy (ks:List Rat) (ps:List (List Rat)) (i:Nat):Rat:=nK (pE (yO ps i)) (ks.getD (i+1) 0)-nK (pE (yO ps i)) (ks.getD i 0)
def eN (ks:List Rat) (ps:List (List Rat)):Nat->Rat
 | 0=>0
 | i+1=>eN ks ps i+Zy ks ps i
theorem aL0 {A:Nat} {ks:List Rat} {ps:List (List Rat)} (T:Rt A ks ps):∀ p∈mW (mW ps),p.length<=9/\∀ a∈p,Fit (A+24) a:=fun p hp=>by
 have h0:Rn A ps:=fun q hq=>⟨by have:=(T.hp q hq).1;omega,(T.hp q hq).2⟩
 have h2:=((h0.dv T.hA1).dv (by omega)) p hp;refine ⟨?_,fun a ha=>(h2.2 a ha).mono (by omega)⟩;obtain ⟨q,hq,rfl⟩:=eM.1 hp;obtain ⟨r,hr,rfl⟩:=eM.1 hq;have h3:=lR r;have h4:=lR (cM r);have h5:=(T.hp r hr).1;omega
theorem aN1 {A:Nat} {ks:List Rat} {ps:List (List Rat)} (T:Rt A ks ps) {i:Nat} (hi:i<ps.length):(yO ps i).length<=17/\∀ a∈yO ps i,Fit 20488 a:=by
 have h:=aL0 T _ (xE (ps:=mW (mW ps)) (i:=i) (by simpa using hi));have hA:=T.hA;refine ⟨by have:=kD ((mW (mW ps)).getD i []) ((mW (mW ps)).getD i []);rw [yO];omega,fun a ha=>?_⟩;have hm:(A+24)*(((mW (mW ps)).getD i []).length+1)<=1024*10:=Nat.mul_le_mul (by omega) (by omega);exact (jY h.2 h.2 (by omega) a ha).mono (by omega)
theorem aL8 {A:Nat} {ks:List Rat} {ps:List (List Rat)} (T:Rt A ks ps) {i:Nat} (hi:i<ps.length):(pE (yO ps i)).length<=18/\(∀ a∈pE (yO ps i),Fit 20500 a)/\∀ j,Fit 738100 (nK (pE (yO ps i)) (ks.getD j 0)):=by
 have h:=aN1 T hi;have hl:=Pe (yO ps i);have hf:=Qu (A:=20488) (by omega) h.2;refine ⟨by omega,hf,fun j=>?_⟩;have hA:=T.hA;obtain ⟨F,hF⟩:∃ F,F=20500:=⟨_,rfl⟩
 replace hf:∀ a∈pE (yO ps i),Fit F a:=by rw [hF];exact hf
 have hx:Fit F (ks.getD j 0):=(aC T.hk j T.hA1).mono (by omega);have hm:(pE (yO ps i)).length*(2*F+1)<=18*(2*F+1):=Nat.mul_le_mul_right _ (by omega);exact (oT (by omega) hx _ hf).mono (by omega)
theorem TU {A:Nat} {ks:List Rat} {ps:List (List Rat)} (T:Rt A ks ps):∀ i,i<=ps.length->Fit (1+i*1476202) (eN ks ps i)
 | 0,_=>Fit.zero (by omega)
 | i+1,hi=>by
   have h:=aL8 T (show i<ps.length by omega);have h2:=(TU T i (by omega)).add ((h.2.2 (i+1)).sub (h.2.2 i));exact h2.mono (by rw [Nat.add_mul];omega)
theorem az3 (ks:List Rat) (ps:List (List Rat)) (A:Nat) (h:Ec ks ps=true) (T:Rt A ks ps):aQ prog 20 [(.agg [sQ ks,eQ ps]:aJ)] (.ret [qT (eN ks ps ps.length), .one (.int .i64 0)]):=by
 refine eH func20 XI ?_;have hA:=T.hA;have hA1:=T.hA1;have hn:=T.hn;have hl:=T.hl;have hc:=rM ks ps A T.hk hA1 (fun p h=>by have:=(T.hp p h).1;omega);rw [if_pos h] at hc;have h0:Rn A ps:=fun q hq=>⟨by have:=(T.hp q hq).1;omega,(T.hp q hq).2⟩
 have h1:=h0.dv hA1;apply aA hc rfl;apply vn fG rfl;refine vs _ rfl ?_ ?_<;>intro h2
 .exact absurd rfl h2
 apply aA (tA ks ps A (by omega) (fun p h=>⟨by have:=(h0 p h).1;omega,(h0 p h).2⟩) hA1) rfl;apply aA (tA ks (mW ps) (A+12) (by rw [aK];omega) (fun p h=>⟨by have:=(h1 p h).1;omega,(h1 p h).2⟩)) rfl;dsimp only [aE,aF];apply vn (aM sM (n:=ps.length) (by simp)) rfl;refine bZ {i:Nat // i<=ps.length} (fun g=>(.one (.int .i64 (g.1:Int)):aJ)::(qC (eN ks ps g.1)).map .one) (fun g=>ps.length-g.1) ⟨0,dD _⟩ ⟨aJ.Sub.same,jV.1,jV.2.1,jV.2.2.1,trivial⟩ (fun _=>rfl) ?_;rintro ⟨i,hi⟩;dsimp only [aE,aF,List.map] at hi ⊢;apply vn bQ rfl;refine vs _ rfl ?_ ?_<;>intro h9
 .have hi':i<ps.length:=by omega
  obtain ⟨F1,hF1⟩:∃ F,F=20488:=⟨_,rfl⟩
  obtain ⟨F2,hF2⟩:∃ F,F=20500:=⟨_,rfl⟩
  obtain ⟨F3,hF3⟩:∃ F,F=738100:=⟨_,rfl⟩
  have hb:=aL8 T hi';have hs:=aN1 T hi';rw [<-hF2,<-hF3] at hb;rw [<-hF1] at hs;have hd:=aL0 T _ (xE (ps:=mW (mW ps)) (i:=i) (by simpa using hi'));have hbf:=TU T i (by omega);have hm:i*1476202<=20*1476202:=Nat.mul_le_mul_right _ (by omega);have hm1:(A+24)*(((mW (mW ps)).getD i []).length+1)<=1024*10:=Nat.mul_le_mul (by omega) (by omega);have hm2:(pE (yO ps i)).length*(2*F2+2)<=18*(2*F2+2):=Nat.mul_le_mul_right _ hb.1;have hkf:∀ j,Fit F2 (ks.getD j 0):=fun j=>(aC T.hk j hA1).mono (by omega);apply vn (aH sM (m:=i) (by omega) (Int.toNat_natCast i) (Oq (ps:=mW (mW ps)) (by simpa using hi'))) rfl;apply vn (cH TK) rfl;apply aA (BO _ _ (A+24) (A+24) hd.2 hd.2) rfl;dsimp only [aE,aF];apply aA (AI (yO ps i) F1 hs.2) rfl;apply vn (aB (by omega) (by omega)) rfl;dsimp only [aE,aF];apply vn (aH bG (m:=i+1) (by omega) (by omega) (aI (show i+1<ks.length by omega))) rfl;apply vn (aR cF (by decide) (by simp) (.inl rfl)) rfl;apply aA (tD (pE (yO ps i)) (ks.getD (i+1) 0) F2 hb.2.1 (hkf _)) rfl;dsimp only [aE,aF];apply vn (aH bG (m:=i) (by omega) (Int.toNat_natCast i) (aI (show i<ks.length by omega))) rfl;apply vn (aR cF (by decide) (by simp) (.inl rfl)) rfl;apply aA (tD (pE (yO ps i)) (ks.getD i 0) F2 hb.2.1 (hkf _)) rfl;apply aA (jF _ _ _ _ (hb.2.2 (i+1)) (hb.2.2 i)) rfl;dsimp only [aE,aF];apply aA (jU (eN ks ps i) (Zy ks ps i) _ _ hbf ((hb.2.2 (i+1)).sub (hb.2.2 i))) rfl;apply vn (aB (by omega) (by omega)) rfl;dsimp only [aE,aF];exact bD rfl ⟨⟨i+1,by omega⟩,aX.rfl,by show ps.length-(i+1)<ps.length-i;omega⟩
 rw [show ps.length=i by omega];exact aL rfl
open Go Go.Proofs Tryz Ord
def Df:Tr:=.ret [(tF false)]
def av4:Tr:=.split (.u 11 0) Df (bI .gtr 2 33 999999 7 1 4 (.split (.u 12 0) Df (bI .lss 2 38 (-999999) 7 1 4 (.split (.u 13 0) Df (bI .add 3 11 1 3 0 3 (.back 0 [lV 2 0,lV 14 0]))))))
def bj2:Tr:=eI 6 0 (some 3) 27 15 (.need (.prim [(W 7 2),(.one (.c (.k (.int .u8 4))))] none) (.binOp .rem 5 (tT 18) (.const (.int .u8 4)) 5) 5 false (.need (.prim [(W 8 0),(.one (.c (.k (.int .u8 0))))] none) (.binOp .neq 5 (tT 19) (.const (.int .u8 0)) 5) 4 false (.split (.u 9 0) Df (bI .gtr 2 23 999999 7 0 4 (.split (.u 10 0) Df (bI .lss 2 28 (-999999) 7 0 4 av4))))))
def bk3:Tr:=.loop 0 [(.w (.one (.c (.k (.bool false))))),lK 0] (dS 0 0 8 22 (cU .lss 3 7 9 3 0 4 0 4 (.split (.u 5 0) (eW 0 0 3 0 22 13 14 bj2) (dS 0 0 41 22 (cU .leq 3 42 43 6 0 1 0 4 (.ret [(W 7 0)]))))))
theorem aG9:aV prog f13 (fun _=>none) [.v none, .v none]=bk3:=by kernel_rfl
def aY2:Tr:=aZ 33 [(W 0 0)] [none,none] [7] [22] 74 false (.ret [(W 1 0),(W 2 0)])
theorem aH2:aV prog f62 (fun _=>none) [.v none]=aY2:=by kernel_rfl
def dJ.ae3 (x:dJ):Bool:=decide (x.pow%4=0/\x.n<=999999 /\ -999999<=x.n/\x.d<=999999 /\ -999999<=x.d)
def eU (l:List dJ) (m:Int):Bool:=l.all dJ.ae3&&decide ((l.length:Int)<=m)
theorem al7 {x:dJ} (h:x.ae3=true):Fit 40 x.v:=by
 have h:=of_decide_eq_true h;have e:x.v=x.b:=by rw [dJ.v,h.1,Rat.pow_succ,Rat.pow_zero,Rat.one_mul]
 rw [e,dJ.b];refine (Fit.int (B:=20) (by omega) (by have:(2:Nat)^20=1048576:=rfl;omega)).div (C:=20) ?_;split
 .exact Fit.int (by omega) (by decide)
 .exact Fit.int (by omega) (by have:(2:Nat)^20=1048576:=rfl;omega)
theorem kY {l:List dJ} {m:Int} (h:eU l m=true):(l.length:Int)<=m:=by
 rw [eU,Bool.and_eq_true,decide_eq_true_eq] at h;exact h.2
theorem nA (l:List dJ) (m:Int) (hs:l.length<140737488355328):aQ prog 13 [(.one (sN l):aJ),(.one (.int .i64 m):aJ)] (.ret [.one (.bool (eU l m))]):=by
 refine eH func13 aG9 ?_
 have hno:∀ (i:Nat) (x:dJ),l[i]? = some x->x.ae3=false->eU l m=false:=fun i x hx hf=>by
  rw [eU,Bool.and_eq_false_iff];exact .inl (by rw [List.all_eq_false];exact ⟨x,gD hx,by rw [hf];exact Bool.false_ne_true⟩)
 refine bZ {i:Nat // i<=l.length/\∀ (j:Nat) (x:dJ),j<i->l[j]? = some x->x.ae3=true} (fun g=>[.one (.bool false), .one (.int .i64 (g.1:Int))]) (fun g=>l.length-g.1) ⟨0,dD _,fun j x hj=>absurd hj (by omega)⟩ aX.rfl (fun _=>rfl) ?_;rintro ⟨i,hi,hb⟩;dsimp only [aE,aF] at hi hb ⊢;apply vn (aM QD (aK _)) rfl;apply vn bQ rfl;refine vs _ rfl ?_ ?_<;>intro h3
 .obtain ⟨x,hx⟩:∃ x,l[i]? = some x:=⟨_,cC (by omega)⟩
  apply vn (aH QD (by omega) (by omega) hx) rfl;apply vn (aR bz2 (by decide) (by simp) (.inl rfl)) rfl;dsimp only [aE,aF];apply vn (qB) rfl;apply vn fG rfl;refine vs _ rfl ?_ ?_<;>intro h8
  .rw [hno i x hx (decide_eq_false (by rintro ⟨a1,a2,a3,a4,a5⟩;omega))];exact aL rfl
  apply vn gH rfl;refine vs _ rfl ?_ ?_<;>intro h11
  .rw [hno i x hx (decide_eq_false (by rintro ⟨a1,a2,a3,a4,a5⟩;omega))];exact aL rfl
  apply vn bQ rfl;dsimp only [aE,aF];refine vs _ rfl ?_ ?_<;>intro h14
  .rw [hno i x hx (decide_eq_false (by rintro ⟨a1,a2,a3,a4,a5⟩;omega))];exact aL rfl
  apply vn gH rfl;refine vs _ rfl ?_ ?_<;>intro h17
  .rw [hno i x hx (decide_eq_false (by rintro ⟨a1,a2,a3,a4,a5⟩;omega))];exact aL rfl
  apply vn bQ rfl;refine vs _ rfl ?_ ?_<;>intro h20
  .rw [hno i x hx (decide_eq_false (by rintro ⟨a1,a2,a3,a4,a5⟩;omega))];exact aL rfl
  apply vn (aB (by omega) (by omega)) rfl
  exact bD rfl ⟨⟨i+1,by omega,fun j y hj hy=>by
   rcases Nat.lt_or_ge j i with h | h
   .exact hb j y h hy
   .obtain rfl:j=i:=by omega
    rw [hx] at hy;obtain rfl:=Option.some.inj hy;exact decide_eq_true ⟨by omega,by omega,by omega,by omega,by omega⟩⟩,aX.rfl,by show l.length-(i+1)<l.length-i;omega⟩
 apply vn (aM QD (aK _)) rfl;dsimp only [aE,aF];apply vn nX rfl;dsimp only [aE,aF]
 rw [eU,show l.all dJ.ae3=true by
  rw [List.all_eq_true];intro x hx;obtain ⟨j,hj,rfl⟩:=List.mem_iff_getElem.1 hx;exact hb j _ (by omega) (cC hj)];exact aL rfl
theorem aF6 (l:List dJ) (h:∀ x∈l,x.In) (hs:l.length<1099511627776:=by omega):aQ prog 62 [(.one (sN l):aJ)] (.ret [.one (sQ (aU l)), .one (sR (nM l))]):=by
 refine eH func62 aH2 ?_;apply aA (xR l h hs) rfl;exact aL rfl
def anyS:aD where
 rep:=fun _ _ v=>∃ a l k,v = .slice a l k
 mono:=fun _ h=>h
 one:=fun h=>by obtain ⟨a,l,k,rfl⟩:=h;rfl
theorem iW:(aD.exact (.slice none 0 0)).Sub anyS:=.inr ⟨fun M w v h=>⟨_,_,_,h.1⟩,fun M w v h=>⟨_,_,_,h.1⟩⟩
theorem oJ (l:List dJ):(nM l).map RQ.q=aU l:=by
 rw [nM,aU,List.map_map];apply List.map_congr_left;intro x _;exact RQ.aZ6 _
end Go.Sy
