/- Part. -/
import Derived.Test.YtacgmapjhpghkaaGreatDoorQb
set_option linter.all false
namespace Go.Sy
open Go Go.Proofs Tryz Ord
def aD7:Tr:=eI 0 0 6 0 28 40 41 (dF 19 0 (some 3) 46 42 (aX 79 [(W 14 0),(G3 20)] [(some 3)] [38,43] [98,46] 46 false (aX 86 [(G3 18),(G3 21)] [(some 3)] [37,44] [46,46] 46 true (aX 88 [(.agg [(U 7 0),(U 8 0),(U 9 0)]),(G3 22)] [(some 3)] [29,45] [46,46] 46 true (bD .add 3 20 1 6 0 3 (.back 0 [lV 24 0,lV 23 0,lV 23 1,lV 23 2]))))))
def ay9:Tr:=dF 11 0 none 98 23 (aX 64 [(W 12 0),(W 12 0)] [none] [25,26] [98,98] 98 true (aX 85 [(W 13 0)] [none] [27] [98] 98 true (bD .add 3 33 1 6 0 3 (eI 0 0 15 0 28 32 34 (dF 16 0 (some 3) 46 35 (aX 79 [(W 14 0),(G3 17)] [(some 3)] [30,36] [98,46] 46 false aD7))))))
def bh0:Tr:=aX 80 [(G2 0)] [(some 2)] [15] [31] 31 false (aX 80 [(G2 3)] [(some 2)] [16] [31] 31 false (dD 4 1 18 29 (.loop 0 [lK 0,lN,(.w (.one (.c (.k (.bool false))))),lN] (cN .lss 3 20 19 6 0 5 0 0 (.split (.u 10 0) (eI 4 1 6 0 29 18 20 ay9) (.ret [(.agg [(U 7 0),(U 8 0),(U 9 0)]),(WK 0)]))))))
def aS9:Tr:=aX 22 [(G2 0)] [none] [9] [31] 54 true (bD .neq 54 11 0 1 0 4 (.split (.u 2 0) (.ret [(.agg [tN,(tE (.bool false)),tN]),(W 1 0)]) bh0))
theorem aG7:aV prog f20 (fun _=>none) [.v (some 2)]=aS9:=by kernel_rfl
theorem Vu {A:Nat}:∀ {p:List Rat},(∀ a∈p,Fit A a)->∃ D,D≠0/\D<=2^(A*p.length)/\∀ a∈p,Bd D (2^A-1) a
 | [],_=>⟨1,by omega,Nat.one_le_two_pow,fun a h=>by cases h⟩
 | x::p,h=>by
   obtain ⟨D,h0,hD,hb⟩:=Vu (p:=p) fun a ha=>h a (List.mem_cons_of_mem _ ha);have hx:=h x List.mem_cons_self;have hden:=x.den_pos;refine ⟨x.den*D,Nat.mul_ne_zero (by omega) h0,?_,fun a ha=>?_⟩
   .rw [List.length_cons,Nat.mul_add,Nat.mul_one,Nat.add_comm,Nat.pow_add];exact Nat.mul_le_mul (Nat.le_of_lt hx.2) hD
   .rcases List.mem_cons.1 ha with rfl | ha
    .refine ⟨Nat.dvd_mul_right _ _,Nat.le_trans ?_ (Nat.le_mul_of_pos_right _ hden)⟩;have:=hx.1;omega
    .exact (hb a ha).mono (Nat.dvd_mul_left _ _) (aY _)
theorem NN {A B:Nat} {p q:List Rat} (hp:∀ a∈p,Fit A a) (hq:∀ a∈q,Fit B a) (hl:p.length<=100) :
  ∃ D E,D≠0/\E≠0/\(∀ a∈p,Bd D (2^A-1) a)/\(∀ a∈q,Bd E (2^B-1) a)/\D*E*((p.length+1)*((2^A-1+1)*(2^B-1+1)))<2^(A*(p.length+1)+B*(q.length+1)+7):=by
 obtain ⟨D,h0,hD,h1⟩:=Vu hp;obtain ⟨E,h2,hE,h3⟩:=Vu hq;refine ⟨D,E,h0,h2,h1,h3,?_⟩;have ha:=Nat.two_pow_pos A;have hb:=Nat.two_pow_pos B;rw [Nat.sub_add_cancel ha,Nat.sub_add_cancel hb,show A*(p.length+1)+B*(q.length+1)+7=(A*p.length+B*q.length)+(7+(A+B)) by rw [Nat.mul_add,Nat.mul_add];omega,Nat.pow_add,Nat.pow_add 2 (A*p.length),Nat.pow_add 2 7,Nat.pow_add 2 A];refine Nat.mul_lt_mul_of_le_of_lt (Nat.mul_le_mul hD hE) ?_ (Nat.mul_pos (Nat.two_pow_pos _) (Nat.two_pow_pos _));exact Nat.mul_lt_mul_of_lt_of_le (by show _<128;omega) (aY _) (Nat.mul_pos ha hb)
theorem Ov (p q:List Rat) (A B:Nat) (hp:∀ a∈p,Fit A a) (hq:∀ a∈q,Fit B a) (hl:p.length<=100:=by omega) (hl2:q.length<=100:=by omega) (hB:A*(p.length+1)+B*(q.length+1)+7<=8589934592:=by omega):aQ prog 64 [.one (sQ p), .one (sQ q)] (.ret [.one (sQ (iM p q))]):=by
 obtain ⟨D,E,h0,h1,h2,h3,h4⟩:=NN hp hq hl;exact Va p q D E _ _ _ h0 h1 h2 h3 h4 hB
theorem rX {A B:Nat} {p q:List Rat} (hp:∀ a∈p,Fit A a) (hq:∀ a∈q,Fit B a) (hl:p.length<=100):∀ a∈iM p q,Fit (A*(p.length+1)+B*(q.length+1)+7) a:=by
 intro a ha;unfold iM at ha;split at ha
 .cases ha
 .rename_i hne;obtain ⟨D,E,h0,h1,h2,h3,h4⟩:=NN hp hq hl;obtain ⟨_,_,f3,_⟩:=EK h0 h1 h4;have hpos:0<p.length:=List.length_pos_iff.2 fun e=>hne (.inl e);refine f3 a (p.length-1) (by omega) ?_;have hb:=xB h0 h1 h2 h3 p.length a (List.mem_of_mem_take ha);generalize (2^A-1)*(2^B-1)=X at hb ⊢
  rwa [show (p.length-1)*X+X=p.length*X by rw [<-Nat.succ_mul,show (p.length-1).succ=p.length by omega]]
theorem sK (p q:List Rat):(iM p q).length<=p.length+q.length-1:=by
 unfold iM;split
 .simp
 .have h:=iA (mulL p q p.length);have h2:=kR (z:=zr) (mulL p q p.length);rw [gQ] at h2;rw [h];exact h2
theorem El {α β:Type} {R:α->β->Prop} {a:α} {b:β} (h:R a b):∀ n,bC R (List.replicate n a) (List.replicate n b)
 | 0=>trivial
 | n+1=>⟨h,El h n⟩
def UN (ps:List (List Rat)) (i:Nat):List Rat:=iM ((qJ (qJ ps)).getD i []) ((qJ (qJ ps)).getD i [])
def bnI (ks:List Rat) (ps:List (List Rat)) (i:Nat):Rat:=iR (Wt (UN ps i)) (ks.getD (i+1) 0)-iR (Wt (UN ps i)) (ks.getD i 0)
def Nz (ks:List Rat) (ps:List (List Rat)):Nat->Rat
 | 0=>0
 | i+1=>Nz ks ps i+bnI ks ps i
theorem aJ4 {A:Nat} {ks:List Rat} {ps:List (List Rat)} (T:QH A ks ps):∀ p∈qJ (qJ ps),p.length<=9/\∀ a∈p,Fit (A+24) a:=fun p hp=>by
 have h0:TS A ps:=fun q hq=>⟨by have:=(T.hp q hq).1;omega,(T.hp q hq).2⟩
 have h2:=((h0.dv T.hA1).dv (by omega)) p hp;refine ⟨?_,fun a ha=>(h2.2 a ha).mono (by omega)⟩;obtain ⟨q,hq,rfl⟩:=eH.1 hp;obtain ⟨r,hr,rfl⟩:=eH.1 hq;have h3:=sX r;have h4:=sX (iQ r);have h5:=(T.hp r hr).1;omega
theorem aL6 {A:Nat} {ks:List Rat} {ps:List (List Rat)} (T:QH A ks ps) {i:Nat} (hi:i<ps.length):(UN ps i).length<=17/\∀ a∈UN ps i,Fit 20488 a:=by
 have h:=aJ4 T _ (rL (ps:=qJ (qJ ps)) (i:=i) (by simpa using hi));have hA:=T.hA;refine ⟨by have:=sK ((qJ (qJ ps)).getD i []) ((qJ (qJ ps)).getD i []);rw [UN];omega,fun a ha=>?_⟩;have hm:(A+24)*(((qJ (qJ ps)).getD i []).length+1)<=1024*10:=Nat.mul_le_mul (by omega) (by omega);exact (rX h.2 h.2 (by omega) a ha).mono (by omega)
theorem aK3 {A:Nat} {ks:List Rat} {ps:List (List Rat)} (T:QH A ks ps) {i:Nat} (hi:i<ps.length):(Wt (UN ps i)).length<=18/\(∀ a∈Wt (UN ps i),Fit 20500 a)/\∀ j,Fit 738100 (iR (Wt (UN ps i)) (ks.getD j 0)):=by
 have h:=aL6 T hi;have hl:=av3 (UN ps i);have hf:=aE9 (A:=20488) (by omega) h.2;refine ⟨by omega,hf,fun j=>?_⟩;have hA:=T.hA;obtain ⟨F,hF⟩:∃ F,F=20500:=⟨_,rfl⟩
 replace hf:∀ a∈Wt (UN ps i),Fit F a:=by rw [hF];exact hf
 have hx:Fit F (ks.getD j 0):=(aB T.hk j T.hA1).mono (by omega);have hm:(Wt (UN ps i)).length*(2*F+1)<=18*(2*F+1):=Nat.mul_le_mul_right _ (by omega);exact (tA (by omega) hx _ hf).mono (by omega)
theorem Te {A:Nat} {ks:List Rat} {ps:List (List Rat)} (T:QH A ks ps):∀ i,i<=ps.length->Fit (1+i*1476202) (Nz ks ps i)
 | 0,_=>Fit.zero (by omega)
 | i+1,hi=>by
   have h:=aK3 T (show i<ps.length by omega);have h2:=(Te T i (by omega)).add ((h.2.2 (i+1)).sub (h.2.2 i));exact h2.mono (by rw [Nat.add_mul];omega)
theorem ax2 (ks:List Rat) (ps:List (List Rat)) (A:Nat) (h:rH ks ps=true) (T:QH A ks ps):aQ prog 20 [(.agg [sQ ks,eQ ps]:aJ)] (.ret [qT (Nz ks ps ps.length), .one (.int .i64 0)]):=by
 refine eF func20 aG7 ?_;have hA:=T.hA;have hA1:=T.hA1;have hn:=T.hn;have hl:=T.hl;have hc:=jX ks ps A T.hk hA1 (fun p h=>by have:=(T.hp p h).1;omega);rw [if_pos h] at hc;have h0:TS A ps:=fun q hq=>⟨by have:=(T.hp q hq).1;omega,(T.hp q hq).2⟩
 have h1:=h0.dv hA1;apply aA hc rfl;apply vn cT rfl;refine vs _ rfl ?_ ?_<;>intro h2
 .exact absurd rfl h2
 apply aA (sZ ks ps A (by omega) (fun p h=>⟨by have:=(h0 p h).1;omega,(h0 p h).2⟩) hA1) rfl;apply aA (sZ ks (qJ ps) (A+12) (by rw [aL];omega) (fun p h=>⟨by have:=(h1 p h).1;omega,(h1 p h).2⟩)) rfl;dsimp only [aF,aG];apply vn (aO pX (n:=ps.length) (by simp)) rfl;refine bV {i:Nat // i<=ps.length} (fun g=>(.one (.int .i64 (g.1:Int)):aJ)::(qC (Nz ks ps g.1)).map .one) (fun g=>ps.length-g.1) ⟨0,cX _⟩ ⟨aJ.Sub.same,kY.1,kY.2.1,kY.2.2.1,trivial⟩ (fun _=>rfl) ?_;rintro ⟨i,hi⟩;dsimp only [aF,aG,List.map] at hi ⊢;apply vn bL rfl;refine vs _ rfl ?_ ?_<;>intro h9
 .have hi':i<ps.length:=by omega
  obtain ⟨F1,hF1⟩:∃ F,F=20488:=⟨_,rfl⟩
  obtain ⟨F2,hF2⟩:∃ F,F=20500:=⟨_,rfl⟩
  obtain ⟨F3,hF3⟩:∃ F,F=738100:=⟨_,rfl⟩
  have hb:=aK3 T hi';have hs:=aL6 T hi';rw [<-hF2,<-hF3] at hb;rw [<-hF1] at hs;have hd:=aJ4 T _ (rL (ps:=qJ (qJ ps)) (i:=i) (by simpa using hi'));have hbf:=Te T i (by omega);have hm:i*1476202<=20*1476202:=Nat.mul_le_mul_right _ (by omega);have hm1:(A+24)*(((qJ (qJ ps)).getD i []).length+1)<=1024*10:=Nat.mul_le_mul (by omega) (by omega);have hm2:(Wt (UN ps i)).length*(2*F2+2)<=18*(2*F2+2):=Nat.mul_le_mul_right _ hb.1;have hkf:∀ j,Fit F2 (ks.getD j 0):=fun j=>(aB T.hk j hA1).mono (by omega);apply vn (aI pX (m:=i) (by omega) (Int.toNat_natCast i) (BH (ps:=qJ (qJ ps)) (by simpa using hi'))) rfl;apply vn (cD PK) rfl;apply aA (Ov _ _ (A+24) (A+24) hd.2 hd.2) rfl;dsimp only [aF,aG];apply aA (RU (UN ps i) F1 hs.2) rfl;apply vn (aC (by omega) (by omega)) rfl;dsimp only [aF,aG];apply vn (aI aZ (m:=i+1) (by omega) (by omega) (aH (show i+1<ks.length by omega))) rfl;apply vn (aM bU (by decide) (by simp) (.inl rfl)) rfl;apply aA (pN (Wt (UN ps i)) (ks.getD (i+1) 0) F2 hb.2.1 (hkf _)) rfl;dsimp only [aF,aG];apply vn (aI aZ (m:=i) (by omega) (Int.toNat_natCast i) (aH (show i<ks.length by omega))) rfl;apply vn (aM bU (by decide) (by simp) (.inl rfl)) rfl;apply aA (pN (Wt (UN ps i)) (ks.getD i 0) F2 hb.2.1 (hkf _)) rfl;apply aA (jG _ _ _ _ (hb.2.2 (i+1)) (hb.2.2 i)) rfl;dsimp only [aF,aG];apply aA (jD (Nz ks ps i) (bnI ks ps i) _ _ hbf ((hb.2.2 (i+1)).sub (hb.2.2 i))) rfl;apply vn (aC (by omega) (by omega)) rfl;dsimp only [aF,aG];exact bB rfl ⟨⟨i+1,by omega⟩,aW.rfl,by show ps.length-(i+1)<ps.length-i;omega⟩
 rw [show ps.length=i by omega];exact aK rfl
open Go Go.Proofs Tryz Ord
def Di:Tr:=.ret [(tF false)]
def as8:Tr:=.split (.u 11 0) Di (bD .gtr 2 33 999999 7 1 4 (.split (.u 12 0) Di (bD .lss 2 38 (-999999) 7 1 4 (.split (.u 13 0) Di (bD .add 3 11 1 3 0 3 (.back 0 [lV 2 0,lV 14 0]))))))
def bk6:Tr:=dF 6 0 (some 3) 27 15 (.need (.prim [(W 7 2),(.one (.c (.k (.int .u8 4))))] none) (.binOp .rem 5 (tT 18) (.const (.int .u8 4)) 5) 5 false (.need (.prim [(W 8 0),(.one (.c (.k (.int .u8 0))))] none) (.binOp .neq 5 (tT 19) (.const (.int .u8 0)) 5) 4 false (.split (.u 9 0) Di (bD .gtr 2 23 999999 7 0 4 (.split (.u 10 0) Di (bD .lss 2 28 (-999999) 7 0 4 as8))))))
def bl6:Tr:=.loop 0 [(.w (.one (.c (.k (.bool false))))),lK 0] (dD 0 0 8 22 (cN .lss 3 7 9 3 0 4 0 4 (.split (.u 5 0) (eI 0 0 3 0 22 13 14 bk6) (dD 0 0 41 22 (cN .leq 3 42 43 6 0 1 0 4 (.ret [(W 7 0)]))))))
theorem aF4:aV prog f13 (fun _=>none) [.v none, .v none]=bl6:=by kernel_rfl
def eJ.ab4 (x:eJ):Bool:=decide (x.pow%4=0/\x.n<=999999 /\ -999999<=x.n/\x.d<=999999 /\ -999999<=x.d)
def gT (l:List eJ) (m:Int):Bool:=l.all eJ.ab4&&decide ((l.length:Int)<=m)
theorem aj0 {x:eJ} (h:x.ab4=true):Fit 40 x.v:=by
 have h:=of_decide_eq_true h;have e:x.v=x.b:=by rw [eJ.v,h.1,Rat.pow_succ,Rat.pow_zero,Rat.one_mul]
 rw [e,eJ.b];refine (Fit.int (B:=20) (by omega) (by have:(2:Nat)^20=1048576:=rfl;omega)).div (C:=20) ?_;split
 .exact Fit.int (by omega) (by decide)
 .exact Fit.int (by omega) (by have:(2:Nat)^20=1048576:=rfl;omega)
theorem wW {l:List eJ} {m:Int} (h:gT l m=true):(l.length:Int)<=m:=by
 rw [gT,Bool.and_eq_true,decide_eq_true_eq] at h;exact h.2
theorem wG (l:List eJ) (m:Int) (hs:l.length<140737488355328):aQ prog 13 [(.one (sN l):aJ),(.one (.int .i64 m):aJ)] (.ret [.one (.bool (gT l m))]):=by
 refine eF func13 aF4 ?_
 have hno:∀ (i:Nat) (x:eJ),l[i]? = some x->x.ab4=false->gT l m=false:=fun i x hx hf=>by
  rw [gT,Bool.and_eq_false_iff];exact .inl (by rw [List.all_eq_false];exact ⟨x,fU hx,by rw [hf];exact Bool.false_ne_true⟩)
 refine bV {i:Nat // i<=l.length/\∀ (j:Nat) (x:eJ),j<i->l[j]? = some x->x.ab4=true} (fun g=>[.one (.bool false), .one (.int .i64 (g.1:Int))]) (fun g=>l.length-g.1) ⟨0,cX _,fun j x hj=>absurd hj (by omega)⟩ aW.rfl (fun _=>rfl) ?_;rintro ⟨i,hi,hb⟩;dsimp only [aF,aG] at hi hb ⊢;apply vn (aO PT (aL _)) rfl;apply vn bL rfl;refine vs _ rfl ?_ ?_<;>intro h3
 .obtain ⟨x,hx⟩:∃ x,l[i]? = some x:=⟨_,bZ (by omega)⟩
  apply vn (aI PT (by omega) (by omega) hx) rfl;apply vn (aM bB0 (by decide) (by simp) (.inl rfl)) rfl;dsimp only [aF,aG];apply vn (pS) rfl;apply vn cT rfl;refine vs _ rfl ?_ ?_<;>intro h8
  .rw [hno i x hx (decide_eq_false (by rintro ⟨a1,a2,a3,a4,a5⟩;omega))];exact aK rfl
  apply vn gE rfl;refine vs _ rfl ?_ ?_<;>intro h11
  .rw [hno i x hx (decide_eq_false (by rintro ⟨a1,a2,a3,a4,a5⟩;omega))];exact aK rfl
  apply vn bL rfl;dsimp only [aF,aG];refine vs _ rfl ?_ ?_<;>intro h14
  .rw [hno i x hx (decide_eq_false (by rintro ⟨a1,a2,a3,a4,a5⟩;omega))];exact aK rfl
  apply vn gE rfl;refine vs _ rfl ?_ ?_<;>intro h17
  .rw [hno i x hx (decide_eq_false (by rintro ⟨a1,a2,a3,a4,a5⟩;omega))];exact aK rfl
  apply vn bL rfl;refine vs _ rfl ?_ ?_<;>intro h20
  .rw [hno i x hx (decide_eq_false (by rintro ⟨a1,a2,a3,a4,a5⟩;omega))];exact aK rfl
  apply vn (aC (by omega) (by omega)) rfl
  exact bB rfl ⟨⟨i+1,by omega,fun j y hj hy=>by
   rcases Nat.lt_or_ge j i with h | h
   .exact hb j y h hy
   .obtain rfl:j=i:=by omega
    rw [hx] at hy;obtain rfl:=Option.some.inj hy;exact decide_eq_true ⟨by omega,by omega,by omega,by omega,by omega⟩⟩,aW.rfl,by show l.length-(i+1)<l.length-i;omega⟩
 apply vn (aO PT (aL _)) rfl;dsimp only [aF,aG];apply vn mQ rfl;dsimp only [aF,aG]
 rw [gT,show l.all eJ.ab4=true by
  rw [List.all_eq_true];intro x hx;obtain ⟨j,hj,rfl⟩:=List.mem_iff_getElem.1 hx;exact hb j _ (by omega) (bZ hj)];exact aK rfl
def anyS:aD where
 rep:=fun _ _ v=>∃ a l k,v = .slice a l k
 mono:=fun _ h=>h
 one:=fun h=>by obtain ⟨a,l,k,rfl⟩:=h;rfl
theorem iW:(aD.exact (.slice none 0 0)).Sub anyS:=.inr ⟨fun M w v h=>⟨_,_,_,h.1⟩,fun M w v h=>⟨_,_,_,h.1⟩⟩
def okP (p:List eJ):Bool:=decide (p.length<=60)&&(gT p 5 || Qv (cG p))
theorem Cu (l:List eJ):(xC l).map RQ.q=cG l:=by
 rw [xC,cG,List.map_map];apply List.map_congr_left;intro x _;exact RQ.aZ7 _
end Go.Sy
