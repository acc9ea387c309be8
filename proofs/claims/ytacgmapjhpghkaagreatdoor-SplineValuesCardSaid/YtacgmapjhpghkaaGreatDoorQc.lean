/- Part. -/
import Derived.Test.YtacgmapjhpghkaaGreatDoorQb
set_option linter.all false
namespace Go.Sy
open Go Go.Proofs Tryz Ord
def aJ1:Tr:=dN 0 0 1 0 32 6 7 (dA 2 0 (some 4) 51 8 (bB .add 3 12 1 1 0 3 (dN 0 0 4 0 32 11 13 (dA 5 0 (some 4) 51 14 (.ret [(.agg [(U 3 0),(U 3 1),(U 3 2),(U 3 3),(U 6 0),(U 6 1),(U 6 2),(U 6 3)])])))))
theorem bc1:aM prog f102 (fun _=>none) [.v (some 2), .v none]=aJ1:=by kernel_rfl
def an3:Tr:=dN 0 0 6 0 28 40 41 (dA 19 0 (some 3) 46 42 (aU 79 [(W 14 0),(G3 20)] [(some 3)] [38,43] [98,46] 46 false (aU 86 [(G3 18),(G3 21)] [(some 3)] [37,44] [46,46] 46 true (aU 88 [(.agg [(U 7 0),(U 8 0),(U 9 0)]),(G3 22)] [(some 3)] [29,45] [46,46] 46 true (bB .add 3 20 1 6 0 3 (.back 0 [lV 24 0,lV 23 0,lV 23 1,lV 23 2]))))))
def ai9:Tr:=dA 11 0 none 98 23 (aU 64 [(W 12 0),(W 12 0)] [none] [25,26] [98,98] 98 true (aU 85 [(W 13 0)] [none] [27] [98] 98 true (bB .add 3 33 1 6 0 3 (dN 0 0 15 0 28 32 34 (dA 16 0 (some 3) 46 35 (aU 79 [(W 14 0),(G3 17)] [(some 3)] [30,36] [98,46] 46 false an3))))))
def aR3:Tr:=aU 80 [(G2 0)] [(some 2)] [15] [31] 31 false (aU 80 [(G2 3)] [(some 2)] [16] [31] 31 false (cL 4 1 18 29 (.loop 0 [lK 0,lN,(.w (.one (.c (.k (.bool false))))),lN] (cE .lss 3 20 19 6 0 5 0 0 (.split (.u 10 0) (dN 4 1 6 0 29 18 20 ai9) (.ret [(.agg [(U 7 0),(U 8 0),(U 9 0)]),(WK 0)]))))))
def aC9:Tr:=aU 22 [(G2 0)] [none] [9] [31] 54 true (bB .neq 54 11 0 1 0 4 (.split (.u 2 0) (.ret [(.agg [tN,(tE (.bool false)),tN]),(W 1 0)]) aR3))
theorem Tn:aM prog f20 (fun _=>none) [.v (some 2)]=aC9:=by kernel_rfl
def ak7:Tr:=dA 13 0 none 102 26 (aU 101 [(W 12 0),(W 14 0)] [none] [22,27] [102,102] 102 false (aU 102 [(G2 0),(W 4 0)] [(some 8)] [29,30] [35,3] 154 false (aU 100 [(W 15 0),(G8 16)] [(some 4)] [28,31] [102,154] 51 true (aU 99 [(.agg [(U 5 0),(U 6 0),(U 7 0),(U 8 0)]),(G4 17)] [(some 4)] [17,32] [51,51] 51 true (bB .add 3 15 1 4 0 3 (.back 0 [lV 19 0,lV 18 0,lV 18 1,lV 18 2,lV 18 3]))))))
def aG0:Tr:=.loop 0 [lK 0,lV 3 0,lV 3 1,lV 3 2,lV 3 3] (cL 2 1 12 33 (cE .lss 3 10 13 4 0 9 0 4 (.split (.u 10 0) (dN 2 1 4 0 33 19 20 (dA 11 0 none 102 21 (dN 2 1 4 0 33 24 25 ak7))) (.ret [(.agg [(U 5 0),(U 6 0),(U 7 0),(U 8 0)])]))))
def aA8:Tr:=aU 26 [(G2 0)] [(some 2)] [6] [35] 35 true (aU 26 [(G2 1)] [(some 2)] [7] [35] 35 true (.need (.call 39 [(WK 0)] [(some 4)]) (.call ⟨.value (.func 39),#[(.const (I3 0))],#[2]⟩) 51 true aG0))
theorem aa1:aM prog f30 (fun _=>none) [.v (some 2)]=aA8:=by kernel_rfl
theorem RD {A:Nat}:∀ {p:List Rat},(∀ a∈p,Fit A a)→∃ D,D≠0∧D≤2^(A*p.length)∧∀ a∈p,Bd D (2^A-1) a
 | [],_=>⟨1,by omega,Nat.one_le_two_pow,fun a h=>by cases h⟩
 | x::p,h=>by
   obtain ⟨D,h0,hD,hb⟩:=RD (p:=p) fun a ha=>h a (List.mem_cons_of_mem _ ha);have hx:=h x List.mem_cons_self;have hden:=x.den_pos;refine ⟨x.den*D,Nat.mul_ne_zero (by omega) h0,?_,fun a ha=>?_⟩
   ·rw [List.length_cons,Nat.mul_add,Nat.mul_one,Nat.add_comm,Nat.pow_add];exact Nat.mul_le_mul (Nat.le_of_lt hx.2) hD
   ·rcases List.mem_cons.1 ha with rfl | ha
    ·refine ⟨Nat.dvd_mul_right _ _,Nat.le_trans ?_ (Nat.le_mul_of_pos_right _ hden)⟩;have:=hx.1;omega
    ·exact (hb a ha).mono (Nat.dvd_mul_left _ _) (bA _)
theorem Kg {A B:Nat} {p q:List Rat} (hp:∀ a∈p,Fit A a) (hq:∀ a∈q,Fit B a) (hl:p.length≤100) :
  ∃ D E,D≠0∧E≠0∧(∀ a∈p,Bd D (2^A-1) a)∧(∀ a∈q,Bd E (2^B-1) a)∧D*E*((p.length+1)*((2^A-1+1)*(2^B-1+1)))<2^(A*(p.length+1)+B*(q.length+1)+7):=by
 obtain ⟨D,h0,hD,h1⟩:=RD hp;obtain ⟨E,h2,hE,h3⟩:=RD hq;refine ⟨D,E,h0,h2,h1,h3,?_⟩;have ha:=Nat.two_pow_pos A;have hb:=Nat.two_pow_pos B;rw [Nat.sub_add_cancel ha,Nat.sub_add_cancel hb,show A*(p.length+1)+B*(q.length+1)+7=(A*p.length+B*q.length)+(7+(A+B)) by rw [Nat.mul_add,Nat.mul_add];omega,Nat.pow_add,Nat.pow_add 2 (A*p.length),Nat.pow_add 2 7,Nat.pow_add 2 A];refine Nat.mul_lt_mul_of_le_of_lt (Nat.mul_le_mul hD hE) ?_ (Nat.mul_pos (Nat.two_pow_pos _) (Nat.two_pow_pos _));exact Nat.mul_lt_mul_of_lt_of_le (by show _<128;omega) (bA _) (Nat.mul_pos ha hb)
theorem KO (p q:List Rat) (A B:Nat) (hp:∀ a∈p,Fit A a) (hq:∀ a∈q,Fit B a) (hl:p.length≤100:=by omega) (hl2:q.length≤100:=by omega) (hB:A*(p.length+1)+B*(q.length+1)+7≤8589934592:=by omega):aN prog 64 [.one (sQ p), .one (sQ q)] (.ret [.one (sQ (jO p q))]):=by
 obtain ⟨D,E,h0,h1,h2,h3,h4⟩:=Kg hp hq hl;exact Yz p q D E _ _ _ h0 h1 h2 h3 hB h4
theorem rJ {A B:Nat} {p q:List Rat} (hp:∀ a∈p,Fit A a) (hq:∀ a∈q,Fit B a) (hl:p.length≤100):∀ a∈jO p q,Fit (A*(p.length+1)+B*(q.length+1)+7) a:=by
 intro a ha;unfold jO at ha;split at ha
 ·cases ha
 ·rename_i hne;obtain ⟨D,E,h0,h1,h2,h3,h4⟩:=Kg hp hq hl;obtain ⟨_,_,f3,_⟩:=De h0 h1 h4;have hpos:0<p.length:=List.length_pos_iff.2 fun e=>hne (.inl e);refine f3 a (p.length-1) (by omega) ?_;have hb:=vP h0 h1 h2 h3 p.length a (List.mem_of_mem_take ha);generalize (2^A-1)*(2^B-1)=X at hb ⊢
  rwa [show (p.length-1)*X+X=p.length*X by rw [←Nat.succ_mul,show (p.length-1).succ=p.length by omega]]
theorem rV (p q:List Rat):(jO p q).length≤p.length+q.length-1:=by
 unfold jO;split
 ·simp
 ·have h:=gT (mulL p q p.length);have h2:=fT (z:=zr) (mulL p q p.length);rw [gI] at h2;rw [h];exact h2
def adF (p q:List RQ):List RQ:=eH ((List.range (max p.length q.length)).map (HJ p q))
def XH (p:List RQ) (k:RQ):List RQ:=eH ((List.range p.length).map (Vi p k))
def GP (p q:List RQ):Nat→List RQ
 | 0=>[]
 | i+1=>adF (GP p q i) (List.replicate i .nil++XH p (q.getD i .nil))
theorem Dw (p:List RQ):(eH p).length≤p.length:=by rw [oQ];exact fT p
theorem SJ (p:List RQ) (k:RQ):(XH p k).length≤p.length:=by have:=Dw ((List.range p.length).map (Vi p k));simpa [XH] using this
theorem aj8 (p q:List RQ):(adF p q).length≤max p.length q.length:=by have:=Dw ((List.range (max p.length q.length)).map (HJ p q));simpa [adF] using this
theorem Ta {A B:Nat} {p:List RQ} {k:RQ} (hA:1≤A) (hp:∀ a∈p,Fit A a.q) (hk:Fit B k.q):∀ a∈XH p k,Fit (A+B) a.q:=fun a ha=>by
 obtain ⟨i,hi,rfl⟩:=eB.1 (List.mem_of_mem_take ha);exact (AZ hA hp i).mul hk
theorem ad0 {A B:Nat} {p q:List RQ} (hA:1≤A) (hB:1≤B) (hp:∀ a∈p,Fit A a.q) (hq:∀ a∈q,Fit B a.q):∀ a∈adF p q,Fit (A+B+1) a.q:=fun a ha=>by
 obtain ⟨i,hi,rfl⟩:=eB.1 (List.mem_of_mem_take ha);exact (AZ hA hp i).add (AZ hB hq i)
theorem Sa (p q:List RQ):∀ i,(GP p q i).length≤i+p.length
 | 0=>by simp [GP]
 | i+1=>by
   have h1:=Sa p q i;have h2:=aj8 (GP p q i) (List.replicate i .nil++XH p (q.getD i .nil));have h3:=SJ p (q.getD i .nil);rw [dF,List.length_replicate] at h2;rw [GP];omega
theorem Wg {A:Nat} {p:List RQ} (i:Nat) (hp:∀ a∈p,Fit A a.q) (hA:1≤A:=by omega):∀ a∈List.replicate i RQ.nil++p,Fit A a.q:=fun a ha=>by
 rcases List.mem_append.1 ha with h | h
 ·rw [(List.mem_replicate.1 h).2];exact Fit.zero hA
 ·exact hp a h
theorem Vz {B:Nat} {q:List RQ} (hB:1≤B) (hq:∀ a∈q,Fit B a.q) (i:Nat):Fit B (q.getD i .nil).q:=AZ hB hq i
theorem Sm {A B:Nat} {p q:List RQ} (hA:1≤A) (hB:1≤B) (hp:∀ a∈p,Fit A a.q) (hq:∀ a∈q,Fit B a.q):∀ i,∀ a∈GP p q i,Fit (1+i*(A+B+1)) a.q
 | 0,a,h=>by cases h
 | i+1,a,h=>by
   have h1:=Sm hA hB hp hq i;have h2:=Wg i (Ta hA hp (Vz hB hq i));exact (ad0 (by omega) (by omega) h1 h2 a h).mono (by rw [Nat.add_mul];omega)
theorem vK {α β:Type} {R:α→β→Prop} {a:α} {b:β} (h:R a b):∀ n,bG R (List.replicate n a) (List.replicate n b)
 | 0=>trivial
 | n+1=>⟨h,vK h n⟩
theorem TH (n:Nat) (us:List RQ):bG (bG aE.Sub) (List.replicate n [.int .i64 0, .exact (.slice none 0 0), .int .i64 0, .exact (.slice none 0 0)]++us.map rC) ((List.replicate n RQ.nil++us).map rC):=by
 rw [List.map_append,List.map_replicate];exact bG.append (vK bw1 n) (bG.tU (bG.tU aE.Sub.refl) _)
theorem aW2 (p q:List RQ) (A B:Nat) (hp:∀ a∈p,Fit A a.q) (hq:∀ a∈q,Fit B a.q) (hA:1≤A:=by omega) (hB:1≤B:=by omega) (hs:p.length≤1000:=by omega) (hs2:q.length≤1000:=by omega) (hAB:A+B≤500000:=by omega):aN prog 101 [(.one (sR p):aK),(.one (sR q):aK)] (.ret [.one (sR (GP p q q.length))]):=by
 refine cW func101 aS3 ?_;refine bJ {i:Nat // i≤q.length} (fun g=>[.one (sR (GP p q g.1)), .one (.int .i64 (g.1:Int))]) (fun g=>q.length-g.1) ⟨0,cM _⟩ ⟨aE.Sub.nil,aK.Sub.same,trivial⟩ (fun _=>rfl) ?_;rintro ⟨i,hi⟩;dsimp only [aC,aD] at hi ⊢;apply vn (aL gE (aH _)) rfl;apply vn bF rfl;refine vs _ rfl ?_ ?_<;>intro h3
 ·obtain ⟨x,hx⟩:∃ x,q[i]? = some x:=⟨_,bI (by omega)⟩
  have hat:q.getD i .nil=x:=by rw [fC,hx];rfl
  have hfx:=hq x (dE hx);have hml:=Sa p q i;have hsl:=SJ p x;have hmf:=Sm hA hB hp hq i;have hm:i*(A+B+1)≤1000*(A+B+1):=Nat.mul_le_mul_right _ (by omega);have hlen:(List.replicate i ([.int .i64 0, .exact (.slice none 0 0), .int .i64 0, .exact (.slice none 0 0)]:List aE)++(XH p x).map rC).length=i+(XH p x).length:=by rw [dF,List.length_replicate,aH]
  refine tC (n:=i) (m:=i) (us:=List.replicate i [.int .i64 0, .exact (.slice none 0 0), .int .i64 0, .exact (.slice none 0 0)]) rfl rfl rfl (bA _) (by omega) (by simp only [maxLen];omega) ?_;apply vn (aG gE (m:=i) (by omega) (Int.toNat_natCast i) hx) rfl;dsimp only [aC,aD];apply vn (aR mG (by decide) (by simp) (.inl rfl)) rfl;apply aA (Zh p x A B hp hfx) rfl;refine wF (ts:=List.replicate i [.int .i64 0, .exact (.slice none 0 0), .int .i64 0, .exact (.slice none 0 0)]) (us:=(XH p x).map rC) (vs:=List.replicate i [.int .i64 0, .exact (.slice none 0 0), .int .i64 0, .exact (.slice none 0 0)]++(XH p x).map rC) rfl (.inr aE.Sub.same) rfl (by rw [hlen];omega) (by rw [hlen];simp only [maxLen];omega) ?_;dsimp only [aC,aD];refine Qc (show aO _ [.one (sR (GP p q i)), .one (sR (List.replicate i .nil++XH p x))] from ⟨aK.Sub.same,aE.Sub.slice (TH i _),trivial⟩) (Yt _ _ (1+i*(A+B+1)) (A+B) hmf (Wg i (Ta hA hp hfx)) (by rw [dF,List.length_replicate];omega)) rfl ?_;apply vn (aB (by omega) (by omega)) rfl;dsimp only [aC,aD];exact aY rfl ⟨⟨i+1,by omega⟩,aO.of_eq (by dsimp only;rw [GP,hat];rfl),by show q.length-(i+1)<q.length-i;omega⟩
 rw [show q.length=i by omega];exact aJ rfl
theorem aV8 (p:List Rat) (k x:Rat):ev (VJ p k) x=ev p x*k:=by
 rw [VJ,sO,←RN]
 congr 1
 apply List.ext_getElem
 ·simp
 ·intro i h1 h2;simp only [List.getElem_map,List.getElem_range,scI];rw [fC,bI (by simpa using h2)];rfl
theorem XP (p q:List RQ) (x:Rat):∀ i,i≤q.length→ev ((GP p q i).map RQ.q) x=ev (p.map RQ.q) x*ev ((q.map RQ.q).take i) x
 | 0,_=>by simp [GP,fU]
 | i+1,hi=>by
   have ih:=XP p q x i (by omega);obtain ⟨a,ha⟩:∃ a,q[i]? = some a:=⟨_,bI (by omega)⟩
   have hat:q.getD i .nil=a:=by rw [fC,ha];rfl
   have hma:(q.map RQ.q)[i]? = some a.q:=by rw [dP,ha];rfl
   rw [GP,adF,Tl,AE,ih,List.map_append,List.map_replicate,Jj,List.length_replicate,show RQ.nil.q=0 from rfl,Qr,oV hma,XH,aa9,aV8,hat]
   grind
theorem TI (p q:List RQ):∀ i,pR ((GP p q i).map RQ.q)
 | 0=>fun a h=>by cases h
 | i+1=>by rw [GP,adF,kB];exact kC _
theorem ai0 (p q:List RQ):(GP p q q.length).map RQ.q=jO (p.map RQ.q) (q.map RQ.q):=
 RC (TI p q _) (Rf _ _) fun x=>by rw [XP p q x _ (bA _),ad1,List.take_of_length_le (by simp)]
def OK (ps:List (List Rat)) (i:Nat):List Rat:=jO ((pI (pI ps)).getD i []) ((pI (pI ps)).getD i [])
def bnI (ks:List Rat) (ps:List (List Rat)) (i:Nat):Rat:=dL (AR (OK ps i)) (ks.getD (i+1) 0)-dL (AR (OK ps i)) (ks.getD i 0)
def rM (ks:List Rat) (ps:List (List Rat)):Nat→Rat
 | 0=>0
 | i+1=>rM ks ps i+bnI ks ps i
theorem WL {A:Nat} {ks:List Rat} {ps:List (List Rat)} (T:iU A ks ps):∀ p∈pI (pI ps),p.length≤9∧∀ a∈p,Fit (A+24) a:=fun p hp=>by
 have h0:pX A ps:=fun q hq=>⟨by have:=(T.hp q hq).1;omega,(T.hp q hq).2⟩
 have h2:=((h0.dv T.hA1).dv (by omega)) p hp;refine ⟨?_,fun a ha=>(h2.2 a ha).mono (by omega)⟩;obtain ⟨q,hq,rfl⟩:=eB.1 hp;obtain ⟨r,hr,rfl⟩:=eB.1 hq;have h3:=KJ r;have h4:=KJ (TW r);have h5:=(T.hp r hr).1;omega
theorem Yx {A:Nat} {ks:List Rat} {ps:List (List Rat)} (T:iU A ks ps) {i:Nat} (hi:i<ps.length):(OK ps i).length≤17∧∀ a∈OK ps i,Fit 20488 a:=by
 have h:=WL T _ (fY (ps:=pI (pI ps)) (i:=i) (by simpa using hi));have hA:=T.hA;refine ⟨by have:=rV ((pI (pI ps)).getD i []) ((pI (pI ps)).getD i []);rw [OK];omega,fun a ha=>?_⟩;have hm:(A+24)*(((pI (pI ps)).getD i []).length+1)≤1024*10:=Nat.mul_le_mul (by omega) (by omega);exact (rJ h.2 h.2 (by omega) a ha).mono (by omega)
theorem XM {A:Nat} {ks:List Rat} {ps:List (List Rat)} (T:iU A ks ps) {i:Nat} (hi:i<ps.length):(AR (OK ps i)).length≤18∧(∀ a∈AR (OK ps i),Fit 20500 a)∧∀ j,Fit 738100 (dL (AR (OK ps i)) (ks.getD j 0)):=by
 have h:=Yx T hi;have hl:=KW (OK ps i);have hf:=LW (A:=20488) (by omega) h.2;refine ⟨by omega,hf,fun j=>?_⟩;have hA:=T.hA;obtain ⟨F,hF⟩:∃ F,F=20500:=⟨_,rfl⟩
 replace hf:∀ a∈AR (OK ps i),Fit F a:=by rw [hF];exact hf
 have hx:Fit F (ks.getD j 0):=(aF T.hk j T.hA1).mono (by omega);have hm:(AR (OK ps i)).length*(2*F+1)≤18*(2*F+1):=Nat.mul_le_mul_right _ (by omega);exact (iX (by omega) hx _ hf).mono (by omega)
theorem wP {A:Nat} {ks:List Rat} {ps:List (List Rat)} (T:iU A ks ps):∀ i,i≤ps.length→Fit (1+i*1476202) (rM ks ps i)
 | 0,_=>Fit.zero (by omega)
 | i+1,hi=>by
   have h:=XM T (show i<ps.length by omega);have h2:=(wP T i (by omega)).add ((h.2.2 (i+1)).sub (h.2.2 i));exact h2.mono (by rw [Nat.add_mul];omega)
theorem SA (ks:List Rat) (ps:List (List Rat)) (A:Nat) (h:hU ks ps=true) (T:iU A ks ps):aN prog 20 [(.agg [sQ ks,eQ ps]:aK)] (.ret [qT (rM ks ps ps.length), .one (.int .i64 0)]):=by
 refine cW func20 Tn ?_;have hA:=T.hA;have hA1:=T.hA1;have hn:=T.hn;have hl:=T.hl;have hc:=cH ks ps A T.hk (fun p h=>by have:=(T.hp p h).1;omega) hA1;rw [if_pos h] at hc;have h0:pX A ps:=fun q hq=>⟨by have:=(T.hp q hq).1;omega,(T.hp q hq).2⟩
 have h1:=h0.dv hA1;apply aA hc rfl;apply vn dS rfl;refine vs _ rfl ?_ ?_<;>intro h2
 ·exact absurd rfl h2
 apply aA (sE ks ps A (by omega) (fun p h=>⟨by have:=(h0 p h).1;omega,(h0 p h).2⟩) hA1) rfl;apply aA (sE ks (pI ps) (A+12) (by rw [aH];omega) (fun p h=>⟨by have:=(h1 p h).1;omega,(h1 p h).2⟩)) rfl;dsimp only [aC,aD];apply vn (aL jT (n:=ps.length) (by simp)) rfl;refine bJ {i:Nat // i≤ps.length} (fun g=>(.one (.int .i64 (g.1:Int)):aK)::(qC (rM ks ps g.1)).map .one) (fun g=>ps.length-g.1) ⟨0,cM _⟩ ⟨aK.Sub.same,gX.1,gX.2.1,gX.2.2.1,trivial⟩ (fun _=>rfl) ?_;rintro ⟨i,hi⟩;dsimp only [aC,aD,List.map] at hi ⊢;apply vn bF rfl;refine vs _ rfl ?_ ?_<;>intro h9
 ·have hi':i<ps.length:=by omega
  obtain ⟨F1,hF1⟩:∃ F,F=20488:=⟨_,rfl⟩
  obtain ⟨F2,hF2⟩:∃ F,F=20500:=⟨_,rfl⟩
  obtain ⟨F3,hF3⟩:∃ F,F=738100:=⟨_,rfl⟩
  have hb:=XM T hi';have hs:=Yx T hi';rw [←hF2,←hF3] at hb;rw [←hF1] at hs;have hd:=WL T _ (fY (ps:=pI (pI ps)) (i:=i) (by simpa using hi'));have hbf:=wP T i (by omega);have hm:i*1476202≤20*1476202:=Nat.mul_le_mul_right _ (by omega);have hm1:(A+24)*(((pI (pI ps)).getD i []).length+1)≤1024*10:=Nat.mul_le_mul (by omega) (by omega);have hm2:(AR (OK ps i)).length*(2*F2+2)≤18*(2*F2+2):=Nat.mul_le_mul_right _ hb.1;have hkf:∀ j,Fit F2 (ks.getD j 0):=fun j=>(aF T.hk j hA1).mono (by omega);apply vn (aG jT (m:=i) (by omega) (Int.toNat_natCast i) (uR (ps:=pI (pI ps)) (by simpa using hi'))) rfl;apply vn (bD AA) rfl;apply aA (KO _ _ (A+24) (A+24) hd.2 hd.2) rfl;dsimp only [aC,aD];apply aA (zE (OK ps i) F1 hs.2) rfl;apply vn (aB (by omega) (by omega)) rfl;dsimp only [aC,aD];apply vn (aG bP (m:=i+1) (by omega) (by omega) (aQ (show i+1<ks.length by omega))) rfl;apply vn (aR cK (by decide) (by simp) (.inl rfl)) rfl;apply aA (pF (AR (OK ps i)) (ks.getD (i+1) 0) F2 hb.2.1 (hkf _)) rfl;dsimp only [aC,aD];apply vn (aG bP (m:=i) (by omega) (Int.toNat_natCast i) (aQ (show i<ks.length by omega))) rfl;apply vn (aR cK (by decide) (by simp) (.inl rfl)) rfl;apply aA (pF (AR (OK ps i)) (ks.getD i 0) F2 hb.2.1 (hkf _)) rfl;apply aA (jK _ _ _ _ (hb.2.2 (i+1)) (hb.2.2 i)) rfl;dsimp only [aC,aD];apply aA (oT (rM ks ps i) (bnI ks ps i) _ _ hbf ((hb.2.2 (i+1)).sub (hb.2.2 i))) rfl;apply vn (aB (by omega) (by omega)) rfl;dsimp only [aC,aD];exact aY rfl ⟨⟨i+1,by omega⟩,aO.rfl,by show ps.length-(i+1)<ps.length-i;omega⟩
 rw [show ps.length=i by omega];exact aJ rfl
theorem Vc (ks:List Rat) (ps:List (List Rat)) (A:Nat) (h:hU ks ps=false) (hp:∀ a∈ks,Fit A a) (hps:∀ p∈ps,p.length<1099511627776) (hA1:1≤A:=by omega) (hA:A≤1073741824:=by omega) (hl:ks.length<1099511627776:=by omega) (hs:ps.length<1099511627776:=by omega):aN prog 20 [(.agg [sQ ks,eQ ps]:aK)] (.ret [qT 0, .one (.int .i64 2)]):=by
 refine cW func20 Tn ?_;have hc:=cH ks ps A hp hps hA1 hl hA hs;rw [if_neg (by rw [h];exact Bool.false_ne_true)] at hc;apply aA hc rfl;apply vn dS rfl;refine vs _ rfl ?_ ?_<;>intro h2
 ·exact eM ⟨gX,aK.Sub.same,trivial⟩
 exact absurd (show ¬ (2:Int)=0 by decide) h2
theorem br7 (kr:List RQ) (e:aE) (i:Nat) (a b:RQ) (ha:kr[i]? = some a) (hb:kr[i+1]? = some b) (hs:kr.length<1099511627776:=by omega):aN prog 102 [(.agg [sR kr,e]:aK),(.one (.int .i64 (i:Int)):aK)] (.ret [.agg (rC a++rC b)]):=by
 refine cW func102 bc1 ?_;have hlt:=(dR.1 hb).1;apply vn (aG pY (m:=i) (by omega) (Int.toNat_natCast i) ha) rfl;apply vn (aR mG (by decide) (by simp) (.inl rfl)) rfl;apply vn (aB (by omega) (by omega)) rfl;apply vn (aG pY (m:=i+1) (by omega) (by omega) hb) rfl;dsimp only [aC,aD];apply vn (aR mG (by decide) (by simp) (.inl rfl)) rfl;exact aJ rfl
set_option maxHeartbeats 1000000 in
theorem ap0 (kr:List RQ) (pr:List (List RQ)) (A:Nat) (T:iU A (kr.map RQ.q) (fH pr)):aN prog 30 [(.agg [sR kr,eR pr]:aK)] (.ret [oK (.of (rM (kr.map RQ.q) (fH pr) pr.length))]):=by
 refine cW func30 aa1 ?_;have hA:=T.hA;have hA1:=T.hA1;have hn:=T.hn;have hl:=T.hl;rw [fE] at hn hl;rw [aH] at hl;have h0:pX A (fH pr):=fun q hq=>⟨by have:=(T.hp q hq).1;omega,(T.hp q hq).2⟩
 have h1:pX (A+12) (fH (FN pr)):=by rw [FN,sK];exact h0.dv hA1
 have hdd:fH (FN (FN pr))=pI (pI (fH pr)):=by rw [FN,sK,FN,sK]
 have hdl:(FN (FN pr)).length=pr.length:=by simp [FN]
 apply aA (sL kr pr A (fun p h=>⟨by have:=(h0.r h).1;omega,(h0.r h).2⟩)) rfl;apply aA (sL kr (FN pr) (A+12) (fun p h=>⟨by have:=(h1.r h).1;omega,(h1.r h).2⟩) (by simp only [FN,aH];omega)) rfl;apply aA (nO 0) rfl;refine bJ {i:Nat // i≤pr.length} (fun g=>(.one (.int .i64 (g.1:Int)):aK)::(rC (.of (rM (kr.map RQ.q) (fH pr) g.1))).map .one) (fun g=>pr.length-g.1) ⟨0,cM _⟩ aO.rfl (fun _=>rfl) ?_;rintro ⟨i,hi⟩;dsimp only [aC,aD,List.map] at hi ⊢;apply vn (aL nP (n:=pr.length) (by rw [aH];exact hdl)) rfl;apply vn bF rfl;refine vs _ rfl ?_ ?_<;>intro h6
 ·have hi':i<(fH pr).length:=by rw [fE];omega
  obtain ⟨p,hp⟩:∃ p,(FN (FN pr))[i]? = some p:=⟨_,bI (by omega)⟩
  obtain ⟨k0,hk0⟩:∃ k,kr[i]? = some k:=⟨_,bI (by omega)⟩
  obtain ⟨k1,hk1⟩:∃ k,kr[i+1]? = some k:=⟨_,bI (by omega)⟩
  have e0:=lG hk0;have e1:=lG hk1;have ep:=wI hp;rw [hdd] at ep;obtain ⟨F1,hF1⟩:∃ F,F=20488:=⟨_,rfl⟩
  obtain ⟨F3,hF3⟩:∃ F,F=738100:=⟨_,rfl⟩
  have hb:=XM T hi';have hs:=Yx T hi';rw [←hF3] at hb;rw [←hF1] at hs;have hd:=WL T _ (fY (ps:=pI (pI (fH pr))) (i:=i) (by simpa using hi'));rw [ep,aH] at hd;have hbf:=wP T i (by rw [fE];omega);have hm:i*1476202≤20*1476202:=Nat.mul_le_mul_right _ (by omega);have hmm:(GP p p p.length).map RQ.q=OK (fH pr) i:=by rw [ai0,OK,ep]
  have hml:(GP p p p.length).length≤17:=by rw [←aH (f:=RQ.q),hmm];exact hs.1
  have hmf:∀ a∈GP p p p.length,Fit F1 a.q:=fO (by rw [hmm];exact hs.2);have hkf:∀ a∈kr,Fit F1 a.q:=fun a ha=>(T.hk _ (List.mem_map_of_mem ha)).mono (by omega);have hov:ovR (GP p p p.length) k0 k1=bnI (kr.map RQ.q) (fH pr) i:=by rw [ovR,hmm,bnI,e0,e1]
  apply vn (aG nP (m:=i) (by omega) (Int.toNat_natCast i) hp) rfl;apply vn (bD qY) rfl;dsimp only [aC,aD];apply vn (aG nP (m:=i) (by omega) (Int.toNat_natCast i) hp) rfl;apply vn (bD qY) rfl;apply aA (aW2 p p (A+24) (A+24) (fO hd.2) (fO hd.2)) rfl;apply aA (br7 kr _ i k0 k1 hk0 hk1) rfl;dsimp only [aC,aD];have ho:=ai2 (GP p p p.length) k0 k1 F1 hmf (hkf _ (dE hk0)) (hkf _ (dE hk1));rw [hov] at ho;apply aA ho rfl;dsimp only [aC,aD];have ha:=yC (.of (rM (kr.map RQ.q) (fH pr) i)) (.of (bnI (kr.map RQ.q) (fH pr) i)) _ _ hbf ((hb.2.2 (i+1)).sub (hb.2.2 i));rw [RQ.lW,RQ.lW] at ha;apply aA ha rfl;apply vn (aB (by omega) (by omega)) rfl;dsimp only [aC,aD];exact aY rfl ⟨⟨i+1,by omega⟩,aO.rfl,by show pr.length-(i+1)<pr.length-i;omega⟩
 rw [show pr.length=i by omega];exact aJ rfl
open Go Go.Proofs Tryz Ord
def nL:Tr:=.ret [(tF false)]
def ac4:Tr:=.split (.u 11 0) nL (bB .gtr 2 33 999999 7 1 4 (.split (.u 12 0) nL (bB .lss 2 38 (-999999) 7 1 4 (.split (.u 13 0) nL (bB .add 3 11 1 3 0 3 (.back 0 [lV 2 0,lV 14 0]))))))
def aV2:Tr:=dA 6 0 (some 3) 27 15 (.need (.prim [(W 7 2),(.one (.c (.k (.int .u8 4))))] none) (.binOp .rem 5 (tT 18) (.const (.int .u8 4)) 5) 5 false (.need (.prim [(W 8 0),(.one (.c (.k (.int .u8 0))))] none) (.binOp .neq 5 (tT 19) (.const (.int .u8 0)) 5) 4 false (.split (.u 9 0) nL (bB .gtr 2 23 999999 7 0 4 (.split (.u 10 0) nL (bB .lss 2 28 (-999999) 7 0 4 ac4))))))
def aW5:Tr:=.loop 0 [(.w (.one (.c (.k (.bool false))))),lK 0] (cL 0 0 8 22 (cE .lss 3 7 9 3 0 4 0 4 (.split (.u 5 0) (dN 0 0 3 0 22 13 14 aV2) (cL 0 0 41 22 (cE .leq 3 42 43 6 0 1 0 4 (.ret [(W 7 0)]))))))
theorem ap5:aM prog f13 (fun _=>none) [.v none, .v none]=aW5:=by kernel_rfl
def aI6:Tr:=aU 33 [(W 0 0)] [none,none] [7] [22] 74 false (.ret [(W 1 0),(W 2 0)])
theorem ap8:aM prog f62 (fun _=>none) [.v none]=aI6:=by kernel_rfl
def aA3:Tr:=aU 126 [(W 1 0)] [none] [6] [102] 102 true (aU 43 [(W 0 0),(W 2 0)] [none] [5,7] [28,32] 4 true (.ret [(W 3 0)]))
theorem aq8:aM prog f46 (fun _=>none) [.v none, .v none]=aA3:=by kernel_rfl
def Mt:Tr:=.ret [(.agg [tN,tN]),(.agg [tN,tN]),(tF false)]
def SX:Tr:=.ret [(.agg [(U 17 0),(.c (.sr 1 18))]),(.agg [(U 19 0),(.c (.sr 1 20))]),(tF false)]
def ae7:Tr:=.split (.u 36 0) SX (.need (.lit 1 [[(.u 29 0)]]) (.buildSlice 29 1 #[(0,(tT 83))]) 29 false (.need (.app 1 24 (some 18) none (some 37)) (.call ⟨.builtin .append,#[(tT 82),(tT 84)],#[29,29]⟩) 29 false (.need (.lit 1 [[(.u 30 0)]]) (.buildSlice 33 1 #[(0,(tT 88))]) 33 false (.need (.app 1 24 (some 20) none (some 39)) (.call ⟨.builtin .append,#[(tT 87),(tT 89)],#[33,33]⟩) 33 false (bB .add 3 47 1 12 0 3 (.back 0 [lV 11 0,lV 41 0,lV 13 0,lV 14 0,lV 15 0,lV 16 0,lV 17 0, .row 38,lV 19 0, .row 40]))))))
def ao0:Tr:=.split (.u 34 0) (aU 70 [(W 30 0)] [none] [75] [102] 3 false (bB .leq 3 76 40 35 0 4 ae7)) (.need (.lit 1 [[(.u 29 0)]]) (.buildSlice 29 1 #[(0,(tT 83))]) 29 false (.need (.app 1 24 (some 18) none (some 35)) (.call ⟨.builtin .append,#[(tT 82),(tT 84)],#[29,29]⟩) 29 false (.need (.lit 1 [[(.u 30 0)]]) (.buildSlice 33 1 #[(0,(tT 88))]) 33 false (.need (.app 1 24 (some 20) none (some 37)) (.call ⟨.builtin .append,#[(tT 87),(tT 89)],#[33,33]⟩) 33 false (bB .add 3 47 1 12 0 3 (.back 0 [lV 11 0,lV 39 0,lV 13 0,lV 14 0,lV 15 0,lV 16 0,lV 17 0, .row 36,lV 19 0, .row 38]))))))
def ZS:Tr:=dN 0 1 12 0 23 60 61 (dA 27 0 none 22 62 (aU 62 [(W 28 0)] [none,none] [63] [22] 123 false (dN 0 1 12 0 23 68 69 (dA 31 0 none 22 70 (.need (.call 13 [(W 32 0),(WK 5)] [none]) (.call ⟨.value (.func 13),#[(tT 71),(.const (I3 5))],#[22,3]⟩) 4 false (.need (.prim [(W 33 0)] none) (.unOp .not 4 (tT 72)) 4 false ao0))))))
def am7:Tr:=cE .lss 3 42 45 12 0 21 0 4 (.split (.u 22 0) (dN 0 1 12 0 23 50 51 (dA 23 0 none 22 52 (cL 24 0 53 22 (bB .gtr 3 54 60 25 0 4 (.split (.u 26 0) SX ZS))))) (.ret [(.agg [(U 17 0),(.c (.sr 1 18))]),(.agg [(U 19 0),(.c (.sr 1 20))]),(tF true)]))
def aJ3:Tr:=.split (.u 6 0) Mt (cL 0 1 28 23 (bB .gtr 3 29 70 7 0 4 (.split (.u 8 0) Mt (aU 33 [(W 0 0)] [none,none] [36] [22] 74 false (.loop 0 [(.w (.one (.c (.k (.bool false))))),lK 0,lN,lN,lN,lN,lV 9 0, .nilrow,lV 10 0, .nilrow] (cL 0 1 44 23 am7))))))
def SU:Tr:=.ret [(.agg [(U 15 0),(.c (.sr 1 16))]),(.agg [(U 17 0),(.c (.sr 1 18))]),(tF false)]
def ai4:Tr:=.split (.u 34 0) SU (.need (.lit 1 [[(.u 27 0)]]) (.buildSlice 29 1 #[(0,(tT 83))]) 29 false (.need (.app 1 24 (some 16) none (some 35)) (.call ⟨.builtin .append,#[(tT 82),(tT 84)],#[29,29]⟩) 29 false (.need (.lit 1 [[(.u 28 0)]]) (.buildSlice 33 1 #[(0,(tT 88))]) 33 false (.need (.app 1 24 (some 18) none (some 37)) (.call ⟨.builtin .append,#[(tT 87),(tT 89)],#[33,33]⟩) 33 false (bB .add 3 47 1 10 0 3 (.back 0 [lV 9 0,lV 39 0,lV 11 0,lV 12 0,lV 13 0,lV 14 0,lV 15 0, .row 36,lV 17 0, .row 38]))))))
def ar5:Tr:=.split (.u 32 0) (aU 70 [(W 28 0)] [none] [75] [102] 3 false (bB .leq 3 76 40 33 0 4 ai4)) (.need (.lit 1 [[(.u 27 0)]]) (.buildSlice 29 1 #[(0,(tT 83))]) 29 false (.need (.app 1 24 (some 16) none (some 33)) (.call ⟨.builtin .append,#[(tT 82),(tT 84)],#[29,29]⟩) 29 false (.need (.lit 1 [[(.u 28 0)]]) (.buildSlice 33 1 #[(0,(tT 88))]) 33 false (.need (.app 1 24 (some 18) none (some 35)) (.call ⟨.builtin .append,#[(tT 87),(tT 89)],#[33,33]⟩) 33 false (bB .add 3 47 1 10 0 3 (.back 0 [lV 9 0,lV 37 0,lV 11 0,lV 12 0,lV 13 0,lV 14 0,lV 15 0, .row 34,lV 17 0, .row 36]))))))
def ZW:Tr:=dN 0 1 10 0 23 60 61 (dA 25 0 none 22 62 (aU 62 [(W 26 0)] [none,none] [63] [22] 123 false (dN 0 1 10 0 23 68 69 (dA 29 0 none 22 70 (.need (.call 13 [(W 30 0),(WK 5)] [none]) (.call ⟨.value (.func 13),#[(tT 71),(.const (I3 5))],#[22,3]⟩) 4 false (.need (.prim [(W 31 0)] none) (.unOp .not 4 (tT 72)) 4 false ar5))))))
def an7:Tr:=cE .lss 3 42 45 10 0 19 0 4 (.split (.u 20 0) (dN 0 1 10 0 23 50 51 (dA 21 0 none 22 52 (cL 22 0 53 22 (bB .gtr 3 54 60 23 0 4 (.split (.u 24 0) SU ZW))))) (.ret [(.agg [(U 15 0),(.c (.sr 1 16))]),(.agg [(U 17 0),(.c (.sr 1 18))]),(tF true)]))
def ax4:Tr:=.split (.u 4 0) (cL 0 0 21 22 (bB .leq 3 22 60 5 0 4 aJ3)) (cL 0 1 28 23 (bB .gtr 3 29 70 5 0 4 (.split (.u 6 0) Mt (aU 33 [(W 0 0)] [none,none] [36] [22] 74 false (.loop 0 [(.w (.one (.c (.k (.bool false))))),lK 0,lN,lN,lN,lN,lV 7 0, .nilrow,lV 8 0, .nilrow] (cL 0 1 44 23 an7))))))
def aT2:Tr:=.need (.call 13 [(W 0 0),(WK 70)] [none]) (.call ⟨.value (.func 13),#[(tT 11),(.const (I3 70))],#[22,3]⟩) 4 false (.need (.prim [(W 1 0)] none) (.unOp .not 4 (tT 12)) 4 false (.split (.u 2 0) Mt (cL 0 1 16 23 (bB .gtr 3 17 6 3 0 4 ax4))))
theorem Jt:aM prog f12 (fun _=>none) [.v (some 2)]=aT2:=by kernel_rfl
def Sz:Tr:=.need (.prim [(W 15 0)] none) (.unOp .not 4 (tT 38)) 4 false (.split (.u 16 0) nL (bB .add 3 26 1 8 0 3 (.back 0 [lV 7 0,lV 17 0])))
def Tf:Tr:=.ret [(tF true)]
def al8:Tr:=cE .lss 3 21 24 8 0 9 0 4 (.split (.u 10 0) (dN 0 1 8 0 29 29 30 (dA 11 0 none 98 31 (dN 1 1 8 0 33 34 35 (dA 13 0 none 102 36 (aU 46 [(W 12 0),(W 14 0)] [none] [32,37] [98,102] 4 true Sz))))) Tf)
def aE2:Tr:=.split (.u 3 0) nL (cL 0 1 14 29 (cL 1 1 17 33 (cE .neq 3 15 18 4 0 5 0 4 (.split (.u 6 0) nL (.loop 0 [(.w (.one (.c (.k (.bool false))))),lK 0] (cL 0 1 23 29 al8))))))
def ay1:Tr:=aU 43 [(W 0 0),(W 1 0)] [none] [7,9] [28,32] 4 false (.need (.prim [(W 2 0)] none) (.unOp .not 4 (tT 10)) 4 false aE2)
theorem ZV:aM prog f25 (fun _=>none) [.v (some 2), .v (some 2)]=ay1:=by kernel_rfl
def ae9:Tr:=cE .lss 3 21 24 8 0 9 0 4 (.split (.u 10 0) (dN 0 1 8 0 29 29 30 (dA 11 0 none 98 31 (dN 1 1 8 0 33 34 35 (dA 13 0 none 102 36 (aU 43 [(W 12 0),(W 14 0)] [none] [32,37] [28,32] 4 true Sz))))) Tf)
def aN7:Tr:=.split (.u 3 0) nL (cL 0 1 14 29 (cL 1 1 17 33 (cE .neq 3 15 18 4 0 5 0 4 (.split (.u 6 0) nL (.loop 0 [(.w (.one (.c (.k (.bool false))))),lK 0] (cL 0 1 23 29 ae9))))))
def aH6:Tr:=aU 43 [(W 0 0),(W 1 0)] [none] [7,9] [28,32] 4 false (.need (.prim [(W 2 0)] none) (.unOp .not 4 (tT 10)) 4 false aN7)
theorem af5:aM prog f32 (fun _=>none) [.v (some 2), .v (some 2)]=aH6:=by kernel_rfl
def aR2:Tr:=cL 0 0 4 28 (cL 0 1 7 29 (cE .add 3 5 8 1 0 2 0 3 (bB .eql 3 9 0 3 0 4 (.ret [(W 4 0)]))))
theorem Zw:aM prog f24 (fun _=>none) [.v (some 2)]=aR2:=by kernel_rfl
def cN.WZ (x:cN):Bool:=decide (x.pow%4=0∧x.n≤999999 ∧ -999999≤x.n∧x.d≤999999 ∧ -999999≤x.d)
def fX (l:List cN) (m:Int):Bool:=l.all cN.WZ&&decide ((l.length:Int)≤m)
theorem YC {x:cN} (h:x.WZ=true):Fit 40 x.v:=by
 have h:=of_decide_eq_true h;have e:x.v=x.b:=by rw [cN.v,h.1,Rat.pow_succ,Rat.pow_zero,Rat.one_mul]
 rw [e,cN.b];refine (Fit.int (B:=20) (by omega) (by have:(2:Nat)^20=1048576:=rfl;omega)).div (C:=20) ?_;split
 ·exact Fit.int (by omega) (by decide)
 ·exact Fit.int (by omega) (by have:(2:Nat)^20=1048576:=rfl;omega)
theorem CB {l:List cN} {m:Int} (h:fX l m=true):(l.length:Int)≤m:=by
 rw [fX,Bool.and_eq_true,decide_eq_true_eq] at h;exact h.2
theorem oM (l:List cN) (m:Int) (hs:l.length<140737488355328):aN prog 13 [(.one (sN l):aK),(.one (.int .i64 m):aK)] (.ret [.one (.bool (fX l m))]):=by
 refine cW func13 ap5 ?_
 have hno:∀ (i:Nat) (x:cN),l[i]? = some x→x.WZ=false→fX l m=false:=fun i x hx hf=>by
  rw [fX,Bool.and_eq_false_iff];exact .inl (by rw [List.all_eq_false];exact ⟨x,dE hx,by rw [hf];exact Bool.false_ne_true⟩)
 refine bJ {i:Nat // i≤l.length∧∀ (j:Nat) (x:cN),j<i→l[j]? = some x→x.WZ=true} (fun g=>[.one (.bool false), .one (.int .i64 (g.1:Int))]) (fun g=>l.length-g.1) ⟨0,cM _,fun j x hj=>absurd hj (by omega)⟩ aO.rfl (fun _=>rfl) ?_;rintro ⟨i,hi,hb⟩;dsimp only [aC,aD] at hi hb ⊢;apply vn (aL Ff (aH _)) rfl;apply vn bF rfl;refine vs _ rfl ?_ ?_<;>intro h3
 ·obtain ⟨x,hx⟩:∃ x,l[i]? = some x:=⟨_,bI (by omega)⟩
  apply vn (aG Ff (by omega) (by omega) hx) rfl;apply vn (aR bo2 (by decide) (by simp) (.inl rfl)) rfl;dsimp only [aC,aD];apply vn (kZ) rfl;apply vn dS rfl;refine vs _ rfl ?_ ?_<;>intro h8
  ·rw [hno i x hx (decide_eq_false (by rintro ⟨a1,a2,a3,a4,a5⟩;omega))];exact aJ rfl
  apply vn eF rfl;refine vs _ rfl ?_ ?_<;>intro h11
  ·rw [hno i x hx (decide_eq_false (by rintro ⟨a1,a2,a3,a4,a5⟩;omega))];exact aJ rfl
  apply vn bF rfl;dsimp only [aC,aD];refine vs _ rfl ?_ ?_<;>intro h14
  ·rw [hno i x hx (decide_eq_false (by rintro ⟨a1,a2,a3,a4,a5⟩;omega))];exact aJ rfl
  apply vn eF rfl;refine vs _ rfl ?_ ?_<;>intro h17
  ·rw [hno i x hx (decide_eq_false (by rintro ⟨a1,a2,a3,a4,a5⟩;omega))];exact aJ rfl
  apply vn bF rfl;refine vs _ rfl ?_ ?_<;>intro h20
  ·rw [hno i x hx (decide_eq_false (by rintro ⟨a1,a2,a3,a4,a5⟩;omega))];exact aJ rfl
  apply vn (aB (by omega) (by omega)) rfl
  exact aY rfl ⟨⟨i+1,by omega,fun j y hj hy=>by
   rcases Nat.lt_or_ge j i with h | h
   ·exact hb j y h hy
   ·obtain rfl:j=i:=by omega
    rw [hx] at hy;obtain rfl:=Option.some.inj hy;exact decide_eq_true ⟨by omega,by omega,by omega,by omega,by omega⟩⟩,aO.rfl,by show l.length-(i+1)<l.length-i;omega⟩
 apply vn (aL Ff (aH _)) rfl;dsimp only [aC,aD];apply vn iZ rfl;dsimp only [aC,aD]
 rw [fX,show l.all cN.WZ=true by
  rw [List.all_eq_true];intro x hx;obtain ⟨j,hj,rfl⟩:=List.mem_iff_getElem.1 hx;exact hb j _ (by omega) (bI hj)];exact aJ rfl
theorem Ba (l:List cN) (h:∀ x∈l,x.In) (hs:l.length<1099511627776:=by omega):aN prog 62 [(.one (sN l):aK)] (.ret [.one (sQ (aW l)), .one (sR (bH l))]):=by
 refine cW func62 ap8 ?_;apply aA (vY l h hs) rfl;exact aJ rfl
theorem ap4 (p:List Rat) (q:List RQ) (B:Nat) (hp:∀ a∈p,Fit B a) (hq:∀ a∈q,Fit B a.q) (hB:B≤34359738360) (hs:p.length<1099511627776) (hs2:q.length<1099511627776) (he:p=trim (q.map RQ.q)):aN prog 46 [(.one (sQ p):aK),(.one (sR q):aK)] (.ret [.one (.bool true)]):=by
 refine cW func46 aq8 ?_;apply aA (pJ q hs2) rfl;dsimp only [aC,aD];have ha:=uW p (eH q) B hp (fun a h=>hq a (List.mem_of_mem_take h)) hB (by have:=Dw q;omega) hs;rw [kB,decide_eq_true he] at ha;apply aA ha rfl;exact aJ rfl
def anyS:aE where
 rep:=fun _ _ v=>∃ a l k,v = .slice a l k
 mono:=fun _ h=>h
 one:=fun h=>by obtain ⟨a,l,k,rfl⟩:=h;rfl
theorem fG {sz:Nat} {ts:List (List aE)}:(aE.slice sz ts).Sub anyS:=.inr ⟨fun M w v h=>by obtain ⟨a,k,e,_⟩:=h;exact ⟨_,_,_,e⟩,fun M w v h=>by obtain ⟨a,k,e,_⟩:=h;exact ⟨_,_,_,e⟩⟩
theorem fF:(aE.exact (.slice none 0 0)).Sub anyS:=.inr ⟨fun M w v h=>⟨_,_,_,h.1⟩,fun M w v h=>⟨_,_,_,h.1⟩⟩
abbrev eN (ps:List (List cN)):aE:=.slice 1 (ps.map fun p=>[sN p])
def PW (p:List cN):Bool:=decide (p.length≤60)&&(fX p 5 || nG (aW p))
def OW (ks:List cN) (ps:List (List cN)):Bool:=fX ks 70&&(!(decide (6<ps.length)&&decide (ks.length≤60))&&(decide (ps.length≤70)&&ps.all PW))
theorem mB {ks:List cN} {ps:List (List cN)} (h:OW ks ps=true):fX ks 70=true∧¬ (6<ps.length∧ks.length≤60)∧ps.length≤70∧∀ p∈ps,PW p=true:=by
 simp only [OW,Bool.and_eq_true,Bool.not_eq_true',decide_eq_true_eq,List.all_eq_true,Bool.and_eq_false_iff,decide_eq_false_iff_not] at h;exact ⟨h.1,fun e=>h.2.1.elim (fun h=>h e.1) (fun h=>h e.2),h.2.2.1,h.2.2.2⟩
theorem oG {p:List cN} (h:PW p=true):p.length≤60∧(fX p 5=true∨nG (aW p)=true):=by
 simpa only [PW,Bool.and_eq_true,Bool.or_eq_true,decide_eq_true_eq] using h
theorem Bw (l:List cN):(bH l).map RQ.q=aW l:=by
 rw [bH,aW,List.map_map];apply List.map_congr_left;intro x _;exact RQ.lW _
theorem dgR (p:List cN):decide ((kN Vj (bH p):Int)-1≤40) = !nG (aW p):=by
 rw [nG,av6,Bw,←decide_not];rw [decide_eq_decide];omega
theorem dB {β:Type} {f:List cN→β} {ps:List (List cN)} {i:Nat} {p:List cN} (h:ps[i]? = some p):(ps.take i).map f ++ [f p]=(ps.take (i+1)).map f:=oA h
set_option maxHeartbeats 1000000 in
theorem Ul (ks:List cN) (ps:List (List cN)) (h:OW ks ps=true) (hk:∀ x∈ks,x.In) (hp:∀ p∈ps,∀ x∈p,x.In) (hs:ks.length<1099511627776) (hs2:ps.length<1099511627776):aN prog 12 [(.agg [sN ks,eN ps]:aK)] (.ret [.agg [sQ (aW ks),eQ (ps.map aW)], .agg [sR (bH ks),eR (ps.map bH)], .one (.bool true)]):=by
 refine cW func12 Jt ?_;obtain ⟨h1,h2,h3,h4⟩:=mB h;apply aA (oM ks 70 (by omega)) rfl;rw [h1];apply vn eS rfl;refine kG false rfl (fun h=>by cases h) (fun _=>?_);apply vn (aL mI (aH _)) rfl;apply vn eF rfl;dsimp only [aC,aD];refine vs _ rfl ?_ ?_<;>intro h6
 ·apply vn (aL Ff (aH _)) rfl;apply vn iZ rfl;refine vs _ rfl ?_ ?_<;>intro h9
  ·exact absurd ⟨by omega,by omega⟩ h2
  apply vn (aL mI (aH _)) rfl;apply vn eF rfl;dsimp only [aC,aD];refine vs _ rfl ?_ ?_<;>intro h13
  ·omega
  apply aA (vY ks hk hs) rfl;refine bJ {i:Nat // i≤ps.length} (fun g=>[.one (.bool false), .one (.int .i64 (g.1:Int)), .one (.exact (.slice none 0 0)), .one (.exact (.slice none 0 0)), .one (.exact (.slice none 0 0)), .one (.exact (.slice none 0 0)), .one (sQ (aW ks)), .rows (((ps.take g.1).map aW).map cQ), .one (sR (bH ks)), .rows (((ps.take g.1).map bH).map cR)]) (fun g=>ps.length-g.1) ⟨0,cM _⟩ aO.rfl (fun _=>rfl) ?_;rintro ⟨i,hi⟩;dsimp only [aC,aD] at hi ⊢;apply vn (aL mI (aH _)) rfl;apply vn bF rfl;refine vs _ rfl ?_ ?_<;>intro h19
  ·obtain ⟨p,hpi⟩:∃ p,ps[i]? = some p:=⟨_,bI (by omega)⟩
   have hpm:=dE hpi;obtain ⟨ho1,ho2⟩:=oG (h4 p hpm);have hl1:((ps.take i).map aW).length≤i:=by simp;omega
   have hl2:((ps.take i).map bH).length≤i:=by simp;omega
   apply vn (aG mI (by omega) (by omega) hpi) rfl;apply vn (bD Am) rfl;dsimp only [aC,aD];apply vn (aL Ff (aH _)) rfl;apply vn eF rfl;refine vs _ rfl ?_ ?_<;>intro h24
   ·omega
   apply vn (aG mI (by omega) (by omega) hpi) rfl;apply vn (bD Am) rfl;dsimp only [aC,aD];apply aA (Ba p (hp p hpm)) rfl;apply vn (aG mI (by omega) (by omega) hpi) rfl;apply vn (bD Am) rfl;apply aA (oM p 5 (by omega)) rfl;dsimp only [aC,aD];apply vn eS rfl;refine kG (!fX p 5) rfl (fun h33=>?_) (fun h33=>?_)
   ·apply aA (oD (bH p) (by rw [bH,aH];omega)) rfl;apply vn iZ rfl;rw [dgR];refine kG (!nG (aW p)) rfl (fun h36=>?_) (fun h36=>?_)
    ·rcases ho2 with e | e
     ·rw [e] at h33;cases h33
     ·rw [e] at h36;cases h36
    apply dJ (us:=[cQ (aW p)]) rfl;dsimp only [aC,aD];refine dV (xs:=(ps.take i).map aW) (x:=aW p) (f:=cQ) rfl rfl (by omega) (by simp only [maxLen];omega) ?_;rw [dB (f:=aW) hpi];apply dJ (us:=[cR (bH p)]) rfl;refine dV (xs:=(ps.take i).map bH) (x:=bH p) (f:=cR) rfl rfl (by omega) (by simp only [maxLen];omega) ?_;rw [dB (f:=bH) hpi];apply vn (aB (by omega) (by omega)) rfl;dsimp only [aC,aD];exact aY rfl ⟨⟨i+1,by omega⟩,aO.rfl,by show ps.length-(i+1)<ps.length-i;omega⟩
   apply dJ (us:=[cQ (aW p)]) rfl;refine dV (xs:=(ps.take i).map aW) (x:=aW p) (f:=cQ) rfl rfl (by omega) (by simp only [maxLen];omega) ?_;rw [dB (f:=aW) hpi];apply dJ (us:=[cR (bH p)]) rfl;refine dV (xs:=(ps.take i).map bH) (x:=bH p) (f:=cR) rfl rfl (by omega) (by simp only [maxLen];omega) ?_;rw [dB (f:=bH) hpi];dsimp only [aC,aD];apply vn (aB (by omega) (by omega)) rfl;dsimp only [aC,aD];exact aY rfl ⟨⟨i+1,by omega⟩,aO.rfl,by show ps.length-(i+1)<ps.length-i;omega⟩
  rw [show i=ps.length by omega,List.take_length];exact aJ rfl
 apply vn (aL mI (aH _)) rfl;apply vn eF rfl;refine vs _ rfl ?_ ?_<;>intro h53
 ·omega
 apply aA (vY ks hk hs) rfl;refine bJ {i:Nat // i≤ps.length} (fun g=>[.one (.bool false), .one (.int .i64 (g.1:Int)), .one (.exact (.slice none 0 0)), .one (.exact (.slice none 0 0)), .one (.exact (.slice none 0 0)), .one (.exact (.slice none 0 0)), .one (sQ (aW ks)), .rows (((ps.take g.1).map aW).map cQ), .one (sR (bH ks)), .rows (((ps.take g.1).map bH).map cR)]) (fun g=>ps.length-g.1) ⟨0,cM _⟩ aO.rfl (fun _=>rfl) ?_;rintro ⟨i,hi⟩;dsimp only [aC,aD] at hi ⊢;apply vn (aL mI (aH _)) rfl;apply vn bF rfl;refine vs _ rfl ?_ ?_<;>intro h59
 ·obtain ⟨p,hpi⟩:∃ p,ps[i]? = some p:=⟨_,bI (by omega)⟩
  have hpm:=dE hpi;obtain ⟨ho1,ho2⟩:=oG (h4 p hpm);have hl1:((ps.take i).map aW).length≤i:=by simp;omega
  have hl2:((ps.take i).map bH).length≤i:=by simp;omega
  apply vn (aG mI (by omega) (by omega) hpi) rfl;apply vn (bD Am) rfl;dsimp only [aC,aD];apply vn (aL Ff (aH _)) rfl;apply vn eF rfl;refine vs _ rfl ?_ ?_<;>intro h64
  ·omega
  apply vn (aG mI (by omega) (by omega) hpi) rfl;apply vn (bD Am) rfl;dsimp only [aC,aD];apply aA (Ba p (hp p hpm)) rfl;apply vn (aG mI (by omega) (by omega) hpi) rfl;apply vn (bD Am) rfl;apply aA (oM p 5 (by omega)) rfl;dsimp only [aC,aD];apply vn eS rfl;refine kG (!fX p 5) rfl (fun h33=>?_) (fun h33=>?_)
  ·apply aA (oD (bH p) (by rw [bH,aH];omega)) rfl;apply vn iZ rfl;rw [dgR];refine kG (!nG (aW p)) rfl (fun h36=>?_) (fun h36=>?_)
   ·rcases ho2 with e | e
    ·rw [e] at h33;cases h33
    ·rw [e] at h36;cases h36
   apply dJ (us:=[cQ (aW p)]) rfl;dsimp only [aC,aD];refine dV (xs:=(ps.take i).map aW) (x:=aW p) (f:=cQ) rfl rfl (by omega) (by simp only [maxLen];omega) ?_;rw [dB (f:=aW) hpi];apply dJ (us:=[cR (bH p)]) rfl;refine dV (xs:=(ps.take i).map bH) (x:=bH p) (f:=cR) rfl rfl (by omega) (by simp only [maxLen];omega) ?_;rw [dB (f:=bH) hpi];apply vn (aB (by omega) (by omega)) rfl;dsimp only [aC,aD];exact aY rfl ⟨⟨i+1,by omega⟩,aO.rfl,by show ps.length-(i+1)<ps.length-i;omega⟩
  apply dJ (us:=[cQ (aW p)]) rfl;refine dV (xs:=(ps.take i).map aW) (x:=aW p) (f:=cQ) rfl rfl (by omega) (by simp only [maxLen];omega) ?_;rw [dB (f:=aW) hpi];apply dJ (us:=[cR (bH p)]) rfl;refine dV (xs:=(ps.take i).map bH) (x:=bH p) (f:=cR) rfl rfl (by omega) (by simp only [maxLen];omega) ?_;rw [dB (f:=bH) hpi];dsimp only [aC,aD];apply vn (aB (by omega) (by omega)) rfl;dsimp only [aC,aD];exact aY rfl ⟨⟨i+1,by omega⟩,aO.rfl,by show ps.length-(i+1)<ps.length-i;omega⟩
 rw [show i=ps.length by omega,List.take_length];exact aJ rfl
set_option maxHeartbeats 1000000 in
theorem Nz (ks:List cN) (ps:List (List cN)) (h:OW ks ps=false) (hk:∀ x∈ks,x.In) (hp:∀ p∈ps,∀ x∈p,x.In) (hs:ks.length<140737488355328) (hs2:ps.length<140737488355328) (hs3:∀ p∈ps,p.length<140737488355328):aN prog 12 [(.agg [sN ks,eN ps]:aK)] (.ret [.agg [anyS,anyS], .agg [anyS,anyS], .one (.bool false)]):=by
 refine cW func12 Jt ?_;apply aA (oM ks 70 hs) rfl;apply vn eS rfl;refine kG (!fX ks 70) rfl (fun h02=>?_) (fun h02=>?_)
 ·exact eM ⟨⟨fF,fF,trivial⟩,⟨fF,fF,trivial⟩,aK.Sub.same,trivial⟩
 apply vn (aL mI (aH _)) rfl;apply vn eF rfl;dsimp only [aC,aD];refine vs _ rfl ?_ ?_<;>intro h6
 ·apply vn (aL Ff (aH _)) rfl;apply vn iZ rfl;refine vs _ rfl ?_ ?_<;>intro h9
  ·exact eM ⟨⟨fF,fF,trivial⟩,⟨fF,fF,trivial⟩,aK.Sub.same,trivial⟩
  apply vn (aL mI (aH _)) rfl;apply vn eF rfl;dsimp only [aC,aD];refine vs _ rfl ?_ ?_<;>intro h13
  ·exact eM ⟨⟨fF,fF,trivial⟩,⟨fF,fF,trivial⟩,aK.Sub.same,trivial⟩
  apply aA (vY ks hk (by have:=CB (show fX ks 70=true by simpa using h02);omega)) rfl;refine bJ {i:Nat // i≤ps.length∧∀ (j:Nat) (p:List cN),j<i→ps[j]? = some p→PW p=true} (fun g=>[.one (.bool false), .one (.int .i64 (g.1:Int)), .one (.exact (.slice none 0 0)), .one (.exact (.slice none 0 0)), .one (.exact (.slice none 0 0)), .one (.exact (.slice none 0 0)), .one (sQ (aW ks)), .rows (((ps.take g.1).map aW).map cQ), .one (sR (bH ks)), .rows (((ps.take g.1).map bH).map cR)]) (fun g=>ps.length-g.1) ⟨0,cM _,fun j p hj=>absurd hj (by omega)⟩ aO.rfl (fun _=>rfl) ?_;rintro ⟨i,hi,hall⟩;dsimp only [aC,aD] at hi hall ⊢;apply vn (aL mI (aH _)) rfl;apply vn bF rfl;refine vs _ rfl ?_ ?_<;>intro h19
  ·obtain ⟨p,hpi⟩:∃ p,ps[i]? = some p:=⟨_,bI (by omega)⟩
   have hpm:=dE hpi;have hpl:=hs3 p hpm;have hl1:((ps.take i).map aW).length≤i:=by simp;omega
   have hl2:((ps.take i).map bH).length≤i:=by simp;omega
   have hnext:PW p=true→∀ (j:Nat) (q:List cN),j<i+1→ps[j]? = some q→PW q=true:=fun ho j q hj hq=>by
    rcases Nat.lt_or_ge j i with h | h
    ·exact hall j q h hq
    ·obtain rfl:j=i:=by omega
     rw [hpi] at hq;obtain rfl:=Option.some.inj hq;exact ho
   apply vn (aG mI (by omega) (by omega) hpi) rfl;apply vn (bD Am) rfl;dsimp only [aC,aD];apply vn (aL Ff (aH _)) rfl;apply vn eF rfl;refine vs _ rfl ?_ ?_<;>intro h24
   ·exact eM ⟨⟨fG,fG,trivial⟩,⟨fG,fG,trivial⟩,aK.Sub.same,trivial⟩
   apply vn (aG mI (by omega) (by omega) hpi) rfl;apply vn (bD Am) rfl;dsimp only [aC,aD];apply aA (Ba p (hp p hpm)) rfl;apply vn (aG mI (by omega) (by omega) hpi) rfl;apply vn (bD Am) rfl;apply aA (oM p 5 (by omega)) rfl;dsimp only [aC,aD];apply vn eS rfl;refine kG (!fX p 5) rfl (fun h33=>?_) (fun h33=>?_)
   ·apply aA (oD (bH p) (by rw [bH,aH];omega)) rfl;apply vn iZ rfl;rw [dgR];refine kG (!nG (aW p)) rfl (fun h36=>?_) (fun h36=>?_)
    ·exact eM ⟨⟨fG,fG,trivial⟩,⟨fG,fG,trivial⟩,aK.Sub.same,trivial⟩
    apply dJ (us:=[cQ (aW p)]) rfl;dsimp only [aC,aD];refine dV (xs:=(ps.take i).map aW) (x:=aW p) (f:=cQ) rfl rfl (by omega) (by simp only [maxLen];omega) ?_;rw [dB (f:=aW) hpi];apply dJ (us:=[cR (bH p)]) rfl;refine dV (xs:=(ps.take i).map bH) (x:=bH p) (f:=cR) rfl rfl (by omega) (by simp only [maxLen];omega) ?_;rw [dB (f:=bH) hpi];apply vn (aB (by omega) (by omega)) rfl;dsimp only [aC,aD];exact aY rfl ⟨⟨i+1,by omega,hnext (by rw [PW,decide_eq_true (show p.length≤60 by omega),show nG (aW p)=true by simpa using h36,Bool.or_true];rfl)⟩,aO.rfl,by show ps.length-(i+1)<ps.length-i;omega⟩
   apply dJ (us:=[cQ (aW p)]) rfl;refine dV (xs:=(ps.take i).map aW) (x:=aW p) (f:=cQ) rfl rfl (by omega) (by simp only [maxLen];omega) ?_;rw [dB (f:=aW) hpi];apply dJ (us:=[cR (bH p)]) rfl;refine dV (xs:=(ps.take i).map bH) (x:=bH p) (f:=cR) rfl rfl (by omega) (by simp only [maxLen];omega) ?_;rw [dB (f:=bH) hpi];dsimp only [aC,aD];apply vn (aB (by omega) (by omega)) rfl;dsimp only [aC,aD];exact aY rfl ⟨⟨i+1,by omega,hnext (by rw [PW,decide_eq_true (show p.length≤60 by omega),show fX p 5=true by simpa using h33];rfl)⟩,aO.rfl,by show ps.length-(i+1)<ps.length-i;omega⟩
  exfalso
  have hall2:ps.all PW=true:=by
   rw [List.all_eq_true];intro x hx;obtain ⟨j,hj,rfl⟩:=List.mem_iff_getElem.1 hx;exact hall j _ (by omega) (bI hj)
  rw [OW,hall2,show fX ks 70=true by simpa using h02,decide_eq_true (show ps.length≤70 by omega)] at h;have h5:¬ (6<ps.length∧ks.length≤60):=by omega
  have h6:(decide (6<ps.length)&&decide (ks.length≤60))=false:=by rw [←Bool.decide_and];exact decide_eq_false h5
  rw [h6] at h;cases h
 apply vn (aL mI (aH _)) rfl;apply vn eF rfl;refine vs _ rfl ?_ ?_<;>intro h53
 ·exact eM ⟨⟨fF,fF,trivial⟩,⟨fF,fF,trivial⟩,aK.Sub.same,trivial⟩
 apply aA (vY ks hk (by have:=CB (show fX ks 70=true by simpa using h02);omega)) rfl;refine bJ {i:Nat // i≤ps.length∧∀ (j:Nat) (p:List cN),j<i→ps[j]? = some p→PW p=true} (fun g=>[.one (.bool false), .one (.int .i64 (g.1:Int)), .one (.exact (.slice none 0 0)), .one (.exact (.slice none 0 0)), .one (.exact (.slice none 0 0)), .one (.exact (.slice none 0 0)), .one (sQ (aW ks)), .rows (((ps.take g.1).map aW).map cQ), .one (sR (bH ks)), .rows (((ps.take g.1).map bH).map cR)]) (fun g=>ps.length-g.1) ⟨0,cM _,fun j p hj=>absurd hj (by omega)⟩ aO.rfl (fun _=>rfl) ?_;rintro ⟨i,hi,hall⟩;dsimp only [aC,aD] at hi hall ⊢;apply vn (aL mI (aH _)) rfl;apply vn bF rfl;refine vs _ rfl ?_ ?_<;>intro h59
 ·obtain ⟨p,hpi⟩:∃ p,ps[i]? = some p:=⟨_,bI (by omega)⟩
  have hpm:=dE hpi;have hpl:=hs3 p hpm;have hl1:((ps.take i).map aW).length≤i:=by simp;omega
  have hl2:((ps.take i).map bH).length≤i:=by simp;omega
  have hnext:PW p=true→∀ (j:Nat) (q:List cN),j<i+1→ps[j]? = some q→PW q=true:=fun ho j q hj hq=>by
   rcases Nat.lt_or_ge j i with h | h
   ·exact hall j q h hq
   ·obtain rfl:j=i:=by omega
    rw [hpi] at hq;obtain rfl:=Option.some.inj hq;exact ho
  apply vn (aG mI (by omega) (by omega) hpi) rfl;apply vn (bD Am) rfl;dsimp only [aC,aD];apply vn (aL Ff (aH _)) rfl;apply vn eF rfl;refine vs _ rfl ?_ ?_<;>intro h64
  ·exact eM ⟨⟨fG,fG,trivial⟩,⟨fG,fG,trivial⟩,aK.Sub.same,trivial⟩
  apply vn (aG mI (by omega) (by omega) hpi) rfl;apply vn (bD Am) rfl;dsimp only [aC,aD];apply aA (Ba p (hp p hpm)) rfl;apply vn (aG mI (by omega) (by omega) hpi) rfl;apply vn (bD Am) rfl;apply aA (oM p 5 (by omega)) rfl;dsimp only [aC,aD];apply vn eS rfl;refine kG (!fX p 5) rfl (fun h33=>?_) (fun h33=>?_)
  ·apply aA (oD (bH p) (by rw [bH,aH];omega)) rfl;apply vn iZ rfl;rw [dgR];refine kG (!nG (aW p)) rfl (fun h36=>?_) (fun h36=>?_)
   ·exact eM ⟨⟨fG,fG,trivial⟩,⟨fG,fG,trivial⟩,aK.Sub.same,trivial⟩
   apply dJ (us:=[cQ (aW p)]) rfl;dsimp only [aC,aD];refine dV (xs:=(ps.take i).map aW) (x:=aW p) (f:=cQ) rfl rfl (by omega) (by simp only [maxLen];omega) ?_;rw [dB (f:=aW) hpi];apply dJ (us:=[cR (bH p)]) rfl;refine dV (xs:=(ps.take i).map bH) (x:=bH p) (f:=cR) rfl rfl (by omega) (by simp only [maxLen];omega) ?_;rw [dB (f:=bH) hpi];apply vn (aB (by omega) (by omega)) rfl;dsimp only [aC,aD];exact aY rfl ⟨⟨i+1,by omega,hnext (by rw [PW,decide_eq_true (show p.length≤60 by omega),show nG (aW p)=true by simpa using h36,Bool.or_true];rfl)⟩,aO.rfl,by show ps.length-(i+1)<ps.length-i;omega⟩
  apply dJ (us:=[cQ (aW p)]) rfl;refine dV (xs:=(ps.take i).map aW) (x:=aW p) (f:=cQ) rfl rfl (by omega) (by simp only [maxLen];omega) ?_;rw [dB (f:=aW) hpi];apply dJ (us:=[cR (bH p)]) rfl;refine dV (xs:=(ps.take i).map bH) (x:=bH p) (f:=cR) rfl rfl (by omega) (by simp only [maxLen];omega) ?_;rw [dB (f:=bH) hpi];dsimp only [aC,aD];apply vn (aB (by omega) (by omega)) rfl;dsimp only [aC,aD];exact aY rfl ⟨⟨i+1,by omega,hnext (by rw [PW,decide_eq_true (show p.length≤60 by omega),show fX p 5=true by simpa using h33];rfl)⟩,aO.rfl,by show ps.length-(i+1)<ps.length-i;omega⟩
 exfalso
 have hall2:ps.all PW=true:=by
  rw [List.all_eq_true];intro x hx;obtain ⟨j,hj,rfl⟩:=List.mem_iff_getElem.1 hx;exact hall j _ (by omega) (bI hj)
 rw [OW,hall2,show fX ks 70=true by simpa using h02,decide_eq_true (show ps.length≤70 by omega)] at h;have h5:¬ (6<ps.length∧ks.length≤60):=by omega
 have h6:(decide (6<ps.length)&&decide (ks.length≤60))=false:=by rw [←Bool.decide_and];exact decide_eq_false h5
 rw [h6] at h;cases h
theorem Te (ks:List Rat) (ps:List (List Rat)) (kr:List RQ) (pr:List (List RQ)) (B:Nat) (h1:ks=kr.map RQ.q) (h2:ps=(fH pr).map trim) (hk:∀ a∈kr,Fit B a.q) (hp:∀ p∈pr,p.length<1099511627776∧∀ a∈p,Fit B a.q) (hs2:pr.length<1099511627776) (hB:B≤34359738360:=by omega) (hs:kr.length<1099511627776:=by omega):aN prog 25 [(.agg [sQ ks,eQ ps]:aK),(.agg [sR kr,eR pr]:aK)] (.ret [.one (.bool true)]):=by
 refine cW func25 ZV ?_;have hl:ks.length=kr.length:=by rw [h1,aH]
 have hl2:ps.length=pr.length:=by rw [h2,aH,fE]
 have ha:=uW ks kr B (fun a h=>by rw [h1] at h;obtain ⟨b,hb,rfl⟩:=eB.1 h;exact hk b hb) hk hB hs;rw [decide_eq_true h1] at ha;apply aA ha rfl;apply vn eS rfl;refine kG false rfl (fun h=>by cases h) (fun _=>?_);apply vn (aL jT (aH _)) rfl;apply vn (aL nP (aH _)) rfl;dsimp only [aC,aD];apply vn dS rfl;refine vs _ rfl ?_ ?_<;>intro h7
 ·omega
 refine bJ {i:Nat // i≤ps.length} (fun g=>[.one (.bool false), .one (.int .i64 (g.1:Int))]) (fun g=>ps.length-g.1) ⟨0,cM _⟩ aO.rfl (fun _=>rfl) ?_;rintro ⟨i,hi⟩;dsimp only [aC,aD] at hi ⊢;apply vn (aL jT (aH _)) rfl;apply vn bF rfl;refine vs _ rfl ?_ ?_<;>intro h12
 ·obtain ⟨q,hq⟩:∃ q,pr[i]? = some q:=⟨_,bI (by omega)⟩
  have hp1:ps[i]? = some (trim (q.map RQ.q)):=by rw [h2,dP,vU hq];rfl
  have hqq:=hp q (dE hq);apply vn (aG jT (by omega) (by omega) hp1) rfl;apply vn (bD AA) rfl;dsimp only [aC,aD];apply vn (aG nP (by omega) (by omega) hq) rfl;apply vn (bD qY) rfl;apply aA (ap4 (trim (q.map RQ.q)) q B (vM fun a h=>by obtain ⟨b,hb,rfl⟩:=eB.1 h;exact hqq.2 b hb) hqq.2 hB (by have:=gT (q.map RQ.q);have h3:=fT (z:=zr) (q.map RQ.q);rw [aH] at h3;omega) hqq.1 rfl) rfl;apply vn eS rfl;dsimp only [aC,aD];refine kG false rfl (fun h=>by cases h) (fun _=>?_);apply vn (aB (by omega) (by omega)) rfl;dsimp only [aC,aD];exact aY rfl ⟨⟨i+1,by omega⟩,aO.rfl,by show ps.length-(i+1)<ps.length-i;omega⟩
 exact aJ rfl
theorem ab6 (ks:List Rat) (ps:List (List Rat)) (kr:List RQ) (pr:List (List RQ)) (B:Nat) (h1:ks=kr.map RQ.q) (h2:ps=fH pr) (hk:∀ a∈kr,Fit B a.q) (hp:∀ p∈pr,p.length<1099511627776∧∀ a∈p,Fit B a.q) (hB:B≤34359738360:=by omega) (hs:kr.length<1099511627776:=by omega) (hs2:pr.length<1099511627776:=by omega):aN prog 32 [(.agg [sQ ks,eQ ps]:aK),(.agg [sR kr,eR pr]:aK)] (.ret [.one (.bool true)]):=by
 refine cW func32 af5 ?_;have hl:ks.length=kr.length:=by rw [h1,aH]
 have hl2:ps.length=pr.length:=by rw [h2,fE]
 have ha:=uW ks kr B (fun a h=>by rw [h1] at h;obtain ⟨b,hb,rfl⟩:=eB.1 h;exact hk b hb) hk hB hs;rw [decide_eq_true h1] at ha;apply aA ha rfl;apply vn eS rfl;refine kG false rfl (fun h=>by cases h) (fun _=>?_);apply vn (aL jT (aH _)) rfl;apply vn (aL nP (aH _)) rfl;dsimp only [aC,aD];apply vn dS rfl;refine vs _ rfl ?_ ?_<;>intro h7
 ·omega
 refine bJ {i:Nat // i≤ps.length} (fun g=>[.one (.bool false), .one (.int .i64 (g.1:Int))]) (fun g=>ps.length-g.1) ⟨0,cM _⟩ aO.rfl (fun _=>rfl) ?_;rintro ⟨i,hi⟩;dsimp only [aC,aD] at hi ⊢;apply vn (aL jT (aH _)) rfl;apply vn bF rfl;refine vs _ rfl ?_ ?_<;>intro h12
 ·obtain ⟨q,hq⟩:∃ q,pr[i]? = some q:=⟨_,bI (by omega)⟩
  have hp1:ps[i]? = some (q.map RQ.q):=by rw [h2,vU hq]
  have hqq:=hp q (dE hq);apply vn (aG jT (by omega) (by omega) hp1) rfl;apply vn (bD AA) rfl;dsimp only [aC,aD];apply vn (aG nP (by omega) (by omega) hq) rfl;apply vn (bD qY) rfl;dsimp only [aC,aD];have hb:=uW (q.map RQ.q) q B (fun a h=>by obtain ⟨b,hb,rfl⟩:=eB.1 h;exact hqq.2 b hb) hqq.2 hB hqq.1 (by rw [aH];exact hqq.1);rw [decide_eq_true rfl] at hb;apply aA hb rfl;apply vn eS rfl;refine kG false rfl (fun h=>by cases h) (fun _=>?_);apply vn (aB (by omega) (by omega)) rfl;dsimp only [aC,aD];exact aY rfl ⟨⟨i+1,by omega⟩,aO.rfl,by show ps.length-(i+1)<ps.length-i;omega⟩
 exact aJ rfl
theorem OZ  :aN prog 24 [(.agg [sQ [],eQ []]:aK)] (.ret [.one (.bool true)]):=by
 refine cW func24 Zw ?_;apply vn (aL bP (n:=0) rfl) rfl;apply vn (aL jT (n:=0) rfl) rfl;apply vn (aB (by omega) (by omega)) rfl;apply vn cB rfl;exact aJ rfl
end Go.Sy
