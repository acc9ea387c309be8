/- Polynomials as lists of coefficients: their values; two that are trimmed and have the same values are the same. A denominator that is known, and a bound: sums keep the denominator. The product of polynomials as it is made: row by row. Polynomials: the sum, the product, constants.
-/
import Derived.Test.YtdmcadckdnnglaaGreatDoorPa
import Derived.Test.YtdmcadckdnnglaaGreatDoorTb
set_option linter.unusedVariables false
set_option linter.unusedSimpArgs false
namespace Ord
def ev (p:List Rat) (x:Rat):Rat:=p.foldr (fun a v=>v*x+a) 0
theorem eJ (x:Rat):ev [] x=0:=rfl
theorem bV (a:Rat) (p:List Rat) (x:Rat):ev (a::p) x=ev p x*x+a:=rfl
theorem Fw (p q:List Rat) (x:Rat):ev (p++q) x=ev p x+x^p.length*ev q x:=by
 induction p with
 | nil=>simp only [List.nil_append,eJ,List.length_nil];grind
 | cons a p ih=>simp only [List.cons_append,bV,ih,List.length_cons,Rat.pow_succ];grind
theorem ad2 (p:List Rat) (i:Nat) (a b x:Rat) (h:p[i]? = some a):ev (p.set i b) x=ev p x+(b-a)*x^i:=by
 induction p generalizing i with
 | nil=>simp at h
 | cons c p ih=>
   cases i with
   | zero=>
     simp only [List.getElem?_cons_zero,Option.some.injEq] at h;subst h;simp only [List.set_cons_zero,bV,Rat.pow_zero];grind
   | succ i=>
     simp only [List.getElem?_cons_succ] at h;simp only [List.set_cons_succ,bV,ih i h,Rat.pow_succ];grind
theorem Kl (n:Nat) (x:Rat):ev (List.replicate n 0) x=0:=by
 induction n with
 | zero=>rfl
 | succ n ih=>rw [List.replicate_succ,bV,ih];grind
theorem kZ {p:List Rat} {i:Nat} {a:Rat} (h:p[i]? = some a) (x:Rat):ev (p.take (i+1)) x=ev (p.take i) x+a*x^i:=by
 have hi:i<p.length:=(List.getElem?_eq_some_iff.1 h).1;rw [List.take_add_one,h,Option.toList_some,Fw,List.length_take,Nat.min_eq_left (by omega),bV,eJ];grind
theorem Lk (k:Rat) (p:List Rat) (x:Rat):ev (p.map (· * k)) x=ev p x*k:=by
 induction p with
 | nil=>rw [List.map_nil,eJ];grind
 | cons a p ih=>rw [List.map_cons,bV,bV,ih];grind
def OW (c:Rat):List Rat→List Rat
 | []=>[]
 | [_]=>[]
 | _::b::p=>ev (b::p) c::OW c (b::p)
theorem Dx (c:Rat):∀ p:List Rat,(OW c p).length=p.length-1
 | []=>rfl
 | [_]=>rfl
 | _::b::p=>by
   have:=Dx c (b::p);simp only [List.length_cons] at this;simp only [OW,List.length_cons,this];omega
theorem Pa (c x:Rat):∀ p:List Rat,ev p x=ev p c+(x-c)*ev (OW c p) x
 | []=>by simp only [eJ,OW];grind
 | [a]=>by simp only [bV,eJ,OW];grind
 | a::b::p=>by
   have ih:=Pa c x (b::p);rw [bV a (b::p) x,bV a (b::p) c,OW,bV (ev (b::p) c)];generalize ev (b::p) x=u at *;generalize ev (b::p) c=v at *;generalize ev (OW c (b::p)) x=t at *;subst ih
   grind
theorem Hn (c:Rat):∀ p:List Rat,ev p c=0→(∀ a∈OW c p,a=0)→∀ a∈p,a=0
 | [],_,_=>by simp
 | [a],h,_=>by
   rw [bV,eJ] at h;intro x hx;simp only [List.mem_singleton] at hx;subst hx;grind
 | a::b::p,h,hs=>by
   rw [OW] at hs;have h1:ev (b::p) c=0:=hs _ List.mem_cons_self;have ih:=Hn c (b::p) h1 fun y hy=>hs y (List.mem_cons_of_mem _ hy);rw [bV,h1] at h;intro x hx;rcases List.mem_cons.1 hx with rfl | hx
   ·grind
   ·exact ih x hx
theorem Fb:∀ (n:Nat) (p:List Rat),p.length≤n→(∀ i:Nat,i<n→ev p (i:Rat)=0)→∀ a∈p,a=0
 | 0,p,hl,_=>by
   have:p = []:=List.eq_nil_of_length_eq_zero (by omega);subst this;simp
 | n+1,p,hl,h=>by
   have h0:=h n (by omega);refine Hn _ p h0 (Fb n (OW (n:Rat) p) (by rw [Dx];omega) fun i hi=>?_);have h1:=h i (by omega);rw [Pa (n:Rat) i p,h0] at h1
   have h2:((i:Rat)-(n:Rat))≠0:=by
    intro e;have e2:(i:Rat)=(n:Rat):=by grind
    have:=Rat.natCast_inj.1 e2;omega
   have h3:((i:Rat)-(n:Rat))*ev (OW (n:Rat) p) i=0:=by grind
   rcases Rat.mul_eq_zero.1 h3 with h4 | h4
   ·exact (h2 h4).elim
   ·exact h4
def Zy:List Rat→List Rat→List Rat
 | [],q=>q.map (fun a=>-a)
 | a::p,[]=>a::p
 | a::p,b::q=>(a-b)::Zy p q
theorem QE:∀ (p q:List Rat) (x:Rat),ev (Zy p q) x=ev p x-ev q x
 | [],q,x=>by
   rw [Zy,eJ]
   induction q with
   | nil=>rw [List.map_nil,eJ];grind
   | cons b q ih=>rw [List.map_cons,bV,bV,ih];grind
 | a::p,[],x=>by rw [Zy,eJ];grind
 | a::p,b::q,x=>by rw [Zy,bV,bV,bV,QE p q x];grind
def rD (p:List Rat):Prop:=∀ a,p.getLast? = some a→a≠0
theorem rD.tail {a:Rat} {p:List Rat} (h:rD (a::p)):rD p:=fun b hb=>h b (by
 cases p with
 | nil=>cases hb
 | cons c p=>rw [List.getLast?_cons_cons];exact hb)
theorem Ct {p:List Rat} (h:rD p) (h0:∀ a∈p,a=0):p = []:=by
 cases hp:p.getLast? with
 | none=>exact List.getLast?_eq_none_iff.1 hp
 | some a=>exact (h a hp (h0 a (List.mem_of_getLast? hp))).elim
theorem IJ:∀ {p q:List Rat},rD p→rD q→(∀ a∈Zy p q,a=0)→p=q
 | [],q,_,hq,h=>by
   rw [Zy] at h;refine (Ct hq fun a ha=>?_).symm;have:=h (-a) (List.mem_map.2 ⟨a,ha,rfl⟩)
   grind
 | a::p,[],hp,_,h=>Ct hp h
 | a::p,b::q,hp,hq,h=>by
   rw [Zy] at h;have h1:=h _ List.mem_cons_self;have h2:=IJ hp.tail hq.tail fun x hx=>h x (List.mem_cons_of_mem _ hx);rw [h2,show a=b by grind]
theorem SG {p q:List Rat} (hp:rD p) (hq:rD q) (h:∀ x,ev p x=ev q x):p=q:=
 IJ hp hq (Fb _ _ (Nat.le_refl _) fun i _=>by rw [QE,h];grind)
end Ord
namespace Ord
def Bd (D S:Nat) (q:Rat):Prop:=q.den∣D∧q.num.natAbs≤S*q.den
theorem Bd.zero {D S:Nat}:Bd D S 0:=⟨⟨D,by simp⟩,by simp⟩
theorem Bd.one {D S:Nat} (h:1≤S):Bd D S 1:=⟨⟨D,by simp⟩,by simpa using h⟩
theorem Bd.int {D S:Nat} {n:Int} (h:n.natAbs≤S):Bd D S (n:Rat):=⟨⟨D,by simp⟩,by simpa using h⟩
theorem Bd.mono {D S E T:Nat} {q:Rat} (h:Bd D S q) (hD:D∣E) (hS:S≤T):Bd E T q:=
 ⟨Nat.dvd_trans h.1 hD,Nat.le_trans h.2 (Nat.mul_le_mul_right _ hS)⟩
theorem Bd.le {D S T:Nat} {q:Rat} (h:Bd D S q) (hS:S≤T):Bd D T q:=h.mono (Nat.dvd_refl _) hS
theorem Bd.neg {D S:Nat} {q:Rat} (h:Bd D S q):Bd D S (-q):=⟨h.1,by show (-q.num).natAbs≤S*q.den;rw [Int.natAbs_neg];exact h.2⟩
theorem Bd.mk {D S:Nat} {n:Int} (h0:D≠0) (h:n.natAbs≤S*D):Bd D S (mkRat n D):=by
 rw [←Rat.normalize_eq_mkRat h0,Rat.normalize_eq h0];show D/n.natAbs.gcd D∣D∧(n/((n.natAbs.gcd D:Nat):Int)).natAbs≤S*(D/n.natAbs.gcd D);have hg:0<n.natAbs.gcd D:=Nat.gcd_pos_of_pos_right _ (by omega);have hd:=Nat.gcd_dvd_right n.natAbs D;have hn:=Nat.gcd_dvd_left n.natAbs D;generalize n.natAbs.gcd D=g at *;obtain ⟨d',rfl⟩:=hd;obtain ⟨k,hk⟩:=Int.ofNat_dvd_left.2 hn;subst hk
 constructor
 ·rw [Nat.mul_div_cancel_left _ hg];exact Nat.dvd_mul_left _ _
 ·rw [Nat.mul_div_cancel_left _ hg,Int.mul_ediv_cancel_left _ (by omega)];rw [Int.natAbs_mul,Int.natAbs_natCast,Nat.mul_left_comm] at h;exact Nat.le_of_mul_le_mul_left h hg
theorem Bd.ex {D S:Nat} {q:Rat} (h:Bd D S q) (h0:D≠0):∃ n:Int,q=mkRat n D∧n.natAbs≤S*D:=by
 obtain ⟨⟨k,rfl⟩,h2⟩:=h;have hk:k≠0:=fun e=>h0 (by rw [e,Nat.mul_zero]);refine ⟨q.num*k,?_,?_⟩
 ·rw [Nat.mul_comm q.den k,Int.mul_comm,Rat.mkRat_mul_left hk,Rat.mkRat_self]
 ·rw [Int.natAbs_mul,Int.natAbs_natCast,←Nat.mul_assoc];exact Nat.mul_le_mul_right _ h2
theorem Bd.add {D S T:Nat} {a b:Rat} (h0:D≠0) (ha:Bd D S a) (hb:Bd D T b):Bd D (S+T) (a+b):=by
 obtain ⟨m,rfl,hm⟩:=ha.ex h0;obtain ⟨n,rfl,hn⟩:=hb.ex h0
 have e:mkRat m D+mkRat n D=mkRat (m+n) D:=by
  rw [Rat.mkRat_add_mkRat m n h0 h0,←Int.add_mul,Rat.mkRat_mul_right h0]
 rw [e];refine Bd.mk h0 (Nat.le_trans (Int.natAbs_add_le _ _) ?_);rw [Nat.add_mul];exact Nat.add_le_add hm hn
theorem Bd.sub {D S T:Nat} {a b:Rat} (h0:D≠0) (ha:Bd D S a) (hb:Bd D T b):Bd D (S+T) (a-b):=by
 rw [Rat.sub_eq_add_neg];exact ha.add h0 hb.neg
theorem Bd.mul {D E S T:Nat} {a b:Rat} (h0:D≠0) (h1:E≠0) (ha:Bd D S a) (hb:Bd E T b):Bd (D*E) (S*T) (a*b):=by
 obtain ⟨m,rfl,hm⟩:=ha.ex h0;obtain ⟨n,rfl,hn⟩:=hb.ex h1;rw [Rat.mkRat_mul_mkRat];refine Bd.mk (Nat.mul_ne_zero h0 h1) ?_;rw [Int.natAbs_mul];have:=Nat.mul_le_mul hm hn;rw [Nat.mul_mul_mul_comm] at this;exact this
theorem Bd.fit {D S B:Nat} {q:Rat} (h:Bd D S q) (h0:D≠0) (h1:D<2^B) (h2:S*D<2^B):Fit B q:=by
 have hd:=Nat.le_of_dvd (by omega) h.1;exact ⟨Nat.lt_of_le_of_lt (Nat.le_trans h.2 (Nat.mul_le_mul_left _ hd)) h2,Nat.lt_of_le_of_lt hd h1⟩
theorem Bd.ax7 {B:Nat} {q:Rat} (h:Fit B q):Bd q.den (2^B) q:=by
 refine ⟨Nat.dvd_refl _,Nat.le_trans (Nat.le_of_lt h.1) (Nat.le_mul_of_pos_right _ q.den_pos)⟩
end Ord
namespace Ord
def gA (a:Rat) (q:List Rat) (i:Nat) (out:List Rat):Nat→List Rat
 | 0=>out
 | k+1=>(gA a q i out k).set (i+k) ((gA a q i out k).getD (i+k) 0+a*q.getD k 0)
def mulL (p q:List Rat):Nat→List Rat
 | 0=>List.replicate (p.length+q.length-1) 0
 | i+1=>if p.getD i 0=0 then mulL p q i else gA (p.getD i 0) q i (mulL p q i) q.length
theorem kD (a:Rat) (q:List Rat) (i:Nat) (out:List Rat):∀ k,(gA a q i out k).length=out.length
 | 0=>rfl
 | k+1=>by rw [gA,List.length_set,kD a q i out k]
theorem iQ (p q:List Rat):∀ i,(mulL p q i).length=p.length+q.length-1
 | 0=>by rw [mulL,List.length_replicate]
 | i+1=>by
   rw [mulL];split
   ·exact iQ p q i
   ·rw [kD,iQ p q i]
theorem cW {l:List Rat} {i:Nat} (h:i<l.length):l[i]? = some (l.getD i 0):=by
 rw [List.getD_eq_getElem?_getD,List.getElem?_eq_getElem h];rfl
theorem lX (x:Rat) (i:Nat):∀ k:Nat,x^(i+k)=x^i*x^k
 | 0=>by rw [Nat.add_zero,Rat.pow_zero];grind
 | k+1=>by rw [←Nat.add_assoc,Rat.pow_succ,lX x i k,Rat.pow_succ];grind
theorem Fp (a:Rat) (q:List Rat) (i:Nat) (out:List Rat) (x:Rat) (hl:i+q.length≤out.length):∀ k,k≤q.length→ev (gA a q i out k) x=ev out x+a*x^i*ev (q.take k) x
 | 0,_=>by rw [gA,List.take_zero,eJ];grind
 | k+1,hk=>by
   have hget:=cW (l:=gA a q i out k) (i:=i+k) (by rw [kD];omega);rw [gA,ad2 _ _ _ _ x hget,Fp a q i out x hl k (by omega),kZ (cW (l:=q) (by omega)) x,lX]
   grind
theorem Mt (p q:List Rat) (x:Rat) (hq:0<q.length):∀ i,i≤p.length→ev (mulL p q i) x=ev (p.take i) x*ev q x
 | 0,_=>by rw [mulL,Kl,List.take_zero,eJ];grind
 | i+1,hi=>by
   have ih:=Mt p q x hq i (by omega);rw [mulL,kZ (cW (l:=p) (by omega)) x];split
   ·rename_i h0;rw [ih,h0];grind
   ·rw [Fp _ _ _ _ x (by rw [iQ];omega) _ (Nat.le_refl _),ih,List.take_length];grind
theorem iA {D S:Nat} {l:List Rat} (h:∀ a∈l,Bd D S a) (i:Nat):Bd D S (l.getD i 0):=by
 rw [List.getD_eq_getElem?_getD];cases hi:l[i]? with
 | none=>exact Bd.zero
 | some a=>exact h a (List.mem_of_getElem? hi)
def aF9 (D S T:Nat) (i k:Nat) (l:List Rat):Prop:=∀ j a,l[j]? = some a→Bd D (if i≤j∧j<i+k then S+T else S) a
theorem Ft {D E S T U:Nat} (h0:D≠0) (h1:E≠0) {a:Rat} {q:List Rat} (ha:Bd D S a) (hq:∀ b∈q,Bd E T b) {i:Nat} {out:List Rat} (ho:∀ x∈out,Bd (D*E) U x):∀ k,aF9 (D*E) U (S*T) i k (gA a q i out k)
 | 0=>fun j x hx=>by
   rw [if_neg (by omega)];exact ho x (List.mem_of_getElem? hx)
 | k+1=>fun j x hx=>by
   have ih:=Ft h0 h1 ha hq ho k (i:=i);rw [gA,List.getElem?_set] at hx;split at hx
   ·rename_i e;subst e;split at hx
    ·rename_i hlt;simp only [Option.some.injEq] at hx;subst hx;rw [if_pos (by omega)];refine Bd.add (Nat.mul_ne_zero h0 h1) ?_ (ha.mul h0 h1 (iA hq k));have:=ih (i+k) _ (cW hlt);rw [if_neg (by omega)] at this;exact this
    ·cases hx
   ·have:=ih j x hx;refine this.le ?_;by_cases h2:i≤j∧j<i+k
    ·rw [if_pos h2,if_pos (by omega)];exact Nat.le_refl _
    ·rw [if_neg h2];split
     ·exact Nat.le_add_right _ _
     ·exact Nat.le_refl _
theorem Cv {D E S T U:Nat} (h0:D≠0) (h1:E≠0) {a:Rat} {q:List Rat} (ha:Bd D S a) (hq:∀ b∈q,Bd E T b) {i:Nat} {out:List Rat} (ho:∀ x∈out,Bd (D*E) U x) (k:Nat):∀ x∈gA a q i out k,Bd (D*E) (U+S*T) x:=fun x hx=>by
 obtain ⟨j,hj⟩:=List.mem_iff_getElem?.1 hx;refine (Ft h0 h1 ha hq ho k j x hj).le ?_;split
 ·exact Nat.le_refl _
 ·exact Nat.le_add_right _ _
theorem AP {D E S T:Nat} (h0:D≠0) (h1:E≠0) {p q:List Rat} (hp:∀ a∈p,Bd D S a) (hq:∀ b∈q,Bd E T b):∀ i,∀ x∈mulL p q i,Bd (D*E) (i*(S*T)) x
 | 0=>fun x hx=>by
   rw [mulL] at hx;obtain ⟨_,rfl⟩:=List.mem_replicate.1 hx;exact Bd.zero
 | i+1=>fun x hx=>by
   rw [mulL] at hx;rw [Nat.add_mul,Nat.one_mul];split at hx
   ·exact (AP h0 h1 hp hq i x hx).le (Nat.le_add_right _ _)
   ·exact Cv h0 h1 (iA hp i) hq (AP h0 h1 hp hq i) _ x hx
theorem Ja {D E S T B n:Nat} (h0:D≠0) (h1:E≠0) (hX:D*E*((n+1)*((S+1)*(T+1)))<2^B) :
  (∀ a,Bd D S a→Fit B a)∧(∀ b,Bd E T b→Fit B b)∧(∀ c (i:Nat),i<n→Bd (D*E) (i*(S*T)+S*T) c→Fit B c)∧(∀ c,Bd (D*E) (S*T) c→Fit B c):=by
 have hD:0<D:=Nat.pos_of_ne_zero h0;have hE:0<E:=Nat.pos_of_ne_zero h1;have hDE:0<D*E:=Nat.mul_pos hD hE
 have key:∀ X,X≤(n+1)*((S+1)*(T+1))→X*(D*E)<2^B:=fun X h=>by
  refine Nat.lt_of_le_of_lt ?_ hX;rw [Nat.mul_comm];exact Nat.mul_le_mul_left _ h
 have hST:(S+1)*(T+1)=S*T+S+T+1:=by rw [Nat.add_mul,Nat.mul_add];omega
 have hge:(S+1)*(T+1)≤(n+1)*((S+1)*(T+1)):=Nat.le_mul_of_pos_left _ (by omega);have k1:=key 1 (by omega);have kS:=key S (by omega);have kT:=key T (by omega);have kST:=key (S*T) (by omega);have hDle:D≤D*E:=Nat.le_mul_of_pos_right _ hE;have hEle:E≤D*E:=Nat.le_mul_of_pos_left _ hD;refine ⟨fun a ha=>ha.fit h0 (by omega) (Nat.lt_of_le_of_lt (Nat.mul_le_mul_left _ hDle) kS),fun b hb=>hb.fit h1 (by omega) (Nat.lt_of_le_of_lt (Nat.mul_le_mul_left _ hEle) kT),fun c i hi hc=>?_,fun c hc=>hc.fit (by omega) (by omega) kST⟩;refine hc.fit (by omega) (by omega) (key _ ?_);have e:i*(S*T)+S*T=(i+1)*(S*T):=by rw [Nat.add_mul,Nat.one_mul]
 rw [e];exact Nat.mul_le_mul (by omega) (by omega)
end Ord
namespace Go.Sy
open Go Go.Proofs Tryz Ord
def ae0:Tr:=bJ .lss 3 11 10 4 0 3 0 0 (.split (.u 6 0) (.need (.callv (.u 1 0) [(W 4 0)] [(some 3)]) (.call ⟨.value (tT 16),#[(tT 17)],#[3]⟩) 39 true (.need (.idx 5 (.u 4 0)) (.indexAddr 72 (tT 14) (tT 15)) 0 false (.need (.strow 5 3 (.u 4 0) 0 [(.u 7 0),(.u 7 1),(.u 7 2)]) (.store 39 (tT 19) (tT 18)) 0 false (aU .add 3 11 1 4 0 3 (.back 0 [lV 9 0, .row 8]))))) (aK 34 [(.one (.c (.sr 3 5)))] [none] [21] [72] 72 true (.ret [(W 7 0)])))
def az4:Tr:=.need (.make [(.slice none 0 0),(.bool false),(.slice none 0 0)] 56 (.u 0 0) (.u 0 0)) (.makeSlice 72 (tT 7) (tT 7)) 72 false (.need (.lenrow 2) (.call ⟨.builtin .len,#[(tT 9)],#[72]⟩) 3 false (.loop 0 [lK 0, .row 2] ae0))
theorem Uz:aN prog f107 (fun _=>none) [.v none, .v none]=az4:=by kernel_rfl
def Th:Tr:=.ret [(G3 5)]
def au3:Tr:=cB 0 0 6 72 (bJ .lss 3 5 7 1 0 2 0 4 (.split (.u 3 0) (eD 0 0 1 0 72 9 10 (dI 4 0 (some 3) 39 11 Th)) (.ret [(.agg [tN,(tE (.bool false)),tN])])))
theorem aH6:aN prog f109 (fun _=>none) [.v none, .v none]=au3:=by kernel_rfl
def ae3:Tr:=aK 109 [(W 1 0),(W 0 0)] [(some 3)] [5,6] [72,3] 39 false (aK 109 [(W 2 0),(W 0 0)] [(some 3)] [8,9] [72,3] 39 true (aK 64 [(G3 3),(G3 4)] [(some 3)] [7,10] [39,39] 39 true Th))
theorem Tf:aN prog f108 (fun _=>none) [.v none, .ref 1, .ref 1]=ae3:=by kernel_rfl
def ad6:Tr:=cB 0 0 5 72 (cB 1 0 7 72 (.need (.prim [(W 2 0),(W 3 0)] none) (.call ⟨.builtin .max,#[(tT 6),(tT 8)],#[3,3]⟩) 3 false (aK 107 [(W 4 0),(.one (.gT 108 [(.ref 0 [(.u 0 0)]),(.ref 0 [(.u 1 0)])]))] [none] [9,10] [3,177] 72 true (.ret [(W 5 0)]))))
theorem as9:aN prog f30 (fun _=>none) [.v none, .v none]=ad6:=by kernel_rfl
def PB:Tr:=.ret [(.one (.c (.k (.slice none 0 0))))]
def XV:Tr:=.need (.ldrow 21 (.u 26 0) 0 3 true) (.load 39 (tT 50)) 39 false (aK 36 [(G3 16),(G3 24)] [(some 3)] [52,53] [39,39] 39 true (aK 64 [(G3 27),(G3 28)] [(some 3)] [51,54] [39,39] 39 true (.need (.idx 21 (.u 25 0)) (.indexAddr 72 (tT 42) (tT 45)) 0 false (.need (.strow 21 3 (.u 25 0) 0 [(.u 29 0),(.u 29 1),(.u 29 2)]) (.store 39 (tT 56) (tT 55)) 0 false (aU .add 3 37 1 20 0 3 (.back 1 [lV 31 0, .row 30]))))))
def Xq:Tr:=bJ .lss 3 37 36 20 0 19 0 0 (.split (.u 22 0) (eD 1 0 20 0 72 35 37 (dI 23 0 (some 3) 39 40 (bJ .add 3 43 44 12 0 20 0 3 (bJ .add 3 47 48 12 0 20 0 3 (.need (.idx 21 (.u 26 0)) (.indexAddr 72 (tT 46) (tT 49)) 0 false XV))))) (aU .add 3 27 1 12 0 3 (.back 0 [lV 23 0, .row 21])))
def Wj:Tr:=eD 0 0 12 0 72 25 27 (dI 15 0 (some 3) 39 30 (aK 35 [(G3 16)] [none] [32] [39] 3 true (aU .eql 3 33 0 17 0 4 (.split (.u 18 0) (aU .add 3 27 1 12 0 3 (.back 0 [lV 19 0, .row 13])) (cB 1 0 35 72 (.loop 1 [lK 0, .row 13] Xq))))))
def VN:Tr:=.need (.make [(.slice none 0 0),(.bool false),(.slice none 0 0)] 56 (.u 9 0) (.u 9 0)) (.makeSlice 72 (tT 23) (tT 23)) 72 false (cB 0 0 25 72 (.loop 0 [lK 0, .row 10] (bJ .lss 3 27 26 12 0 11 0 0 (.split (.u 14 0) Wj (aK 34 [(.one (.c (.sr 3 13)))] [none] [59] [72] 72 true (.ret [(W 15 0)]))))))
def aq2:Tr:=cB 1 0 14 72 (aU .eql 3 15 0 4 0 4 (.split (.u 5 0) PB (cB 0 0 18 72 (cB 1 0 20 72 (bJ .add 3 19 21 6 0 7 0 3 (aU .sub 3 22 1 8 0 3 VN))))))
def az1:Tr:=cB 0 0 10 72 (aU .eql 3 11 0 2 0 4 (.split (.u 3 0) PB aq2))
theorem at1:aN prog f32 (fun _=>none) [.v none, .v none]=az1:=by kernel_rfl
def ah2:Tr:=.need (.call 68 [(WK 1)] [(some 3)]) (.call ⟨.value (.func 68),#[(.const (I3 1))],#[2]⟩) 39 true (.need (.lit 3 [[(.u 0 0),(.u 0 1),(.u 0 2)],[(.u 1 0),(.u 1 1),(.u 1 2)]]) (.buildSlice 72 2 #[(0,(tT 3)),(1,(tT 4))]) 72 false (.ret [(.one (.c (.sr 3 2)))]))
theorem Xb:aN prog f111 (fun _=>none) [.v (some 3)]=ah2:=by kernel_rfl
def av1:Tr:=.need (.lit 3 [[(.u 0 0),(.u 0 1),(.u 0 2)]]) (.buildSlice 72 1 #[(0,(tT 3))]) 72 false (aK 34 [(.one (.c (.sr 3 1)))] [none] [4] [72] 72 true (.ret [(W 2 0)]))
theorem Ih:aN prog f190 (fun _=>none) [.v (some 3)]=av1:=by kernel_rfl
theorem Oi (n:Nat):aY (aY aH.Sub) (List.replicate n [.exact (.slice none 0 0), .bool false, .exact (.slice none 0 0)]) (rQ (List.replicate n 0)):=by
 induction n with
 | zero=>trivial
 | succ n ih=>rw [List.replicate_succ,List.replicate_succ];exact ⟨iZ,ih⟩
theorem QT (n:Nat):aF.Sub (.rows (List.replicate n [.exact (.slice none 0 0), .bool false, .exact (.slice none 0 0)])) (.rows (rQ (List.replicate n 0))):=Oi n
def part (f:Nat→Rat) (n i:Nat):List Rat:=(List.range i).map f++List.replicate (n-i) 0
theorem Jb {f:Nat→Rat} {n i:Nat} (h:i≤n):(part f n i).length=n:=by simp [part];omega
theorem HQ {f:Nat→Rat} {n i:Nat} (h:i<n):(part f n i).set i (f i)=part f n (i+1):=by
 rw [part,part,List.range_succ,List.map_append,List.set_append_right _ _ (by simp)];rw [show n-i=(n-(i+1))+1 by omega,List.replicate_succ];simp
theorem XH (n:Nat) (g:Nat) (caps:List aH) (f:Nat→Rat) (hf:∀ i,i<n→aM prog g (.one (.int .i64 (i:Int))::caps.map .one) (.ret [qT (f i)])) (hn:n<1099511627776):aM prog 107 [(.one (.int .i64 n):aF),(.one (.gT g caps):aF)] (.ret [.one (sQ (trim ((List.range n).map f)))]):=by
 refine aD (args:=[.v none, .v none]) (ins:=[.v (.one (.int .i64 n)), .v (.one (.gT g caps))]) (hints:=(fun _=>none)) fo (by kernel_rfl) func107 ⟨rfl,rfl,trivial⟩ ?_;rw [Uz];dsimp only [List.map,In.env,aB,aA];refine rK (n:=n) (m:=n) rfl rfl rfl (Nat.le_refl _) (by omega) (by simp only [maxLen];omega) ?_;dsimp only [aB,aA];refine KL rfl (List.length_replicate) ?_;dsimp only [aB,aA];refine bC {i:Nat // i≤n} (fun g=>[.one (.int .i64 g.1), .rows (rQ (part f n g.1))]) (fun g=>n-g.1) ⟨0,Nat.zero_le _⟩ ⟨aF.Sub.same,QT n,trivial⟩ (fun _=>rfl) ?_;rintro ⟨i,hi⟩;dsimp only [aB,aA] at hi ⊢;have hpl:=Jb (f:=f) hi;refine vn bB rfl ?_;dsimp only [aB,aA];refine vs _ rfl (fun h4=>?_) (fun h4=>?_)
 ·refine Kx (f:=g) (caps:=caps) rfl (hf i (by omega)) rfl ?_;dsimp only [aB,aA];refine cV rfl rfl (by omega) (by first | omega | (rw [List.length_set];omega)) ?_;obtain ⟨q,hq⟩:∃ q,(part f n i)[i]? = some q:=⟨_,List.getElem?_eq_getElem (by omega)⟩
  refine lR (f:=qC) (d':=f i) rfl rfl (by omega) (Int.toNat_natCast i) hq rfl ?_;rw [HQ (by omega)];dsimp only [aB,aA];refine vn (aE (by omega) (by omega)) rfl ?_;dsimp only [aB,aA];exact aR rfl ⟨⟨i+1,by omega⟩,aO.rfl,by show n-(i+1)<n-i;omega⟩
 have hin:i=n:=by omega
 subst hin;rw [show part f i i=(List.range i).map f by simp [part]];refine aC (wS ((List.range i).map f) (by rw [List.length_map,List.length_range];omega)) rfl ?_;exact aL rfl
theorem YO (p:List Rat) (i:Nat) (hi:i<4611686018427387904):aM prog 109 [(.one (sQ p):aF),(.one (.int .i64 i):aF)] (.ret [qT (p.getD i 0)]):=by
 refine aD (args:=[.v none, .v none]) (ins:=[.v (.one (sQ p)), .v (.one (.int .i64 i))]) (hints:=(fun _=>none)) fo (by kernel_rfl) func109 ⟨rfl,rfl,trivial⟩ ?_;rw [aH6];dsimp only [List.map,In.env,aB,aA];refine vn (aP jF (List.length_map _)) rfl ?_;dsimp only [aB,aA];refine vn bB rfl ?_;dsimp only [aB,aA];refine vs _ rfl (fun h2=>?_) (fun h2=>?_)
 ·have hlt:i<p.length:=by omega
  refine vn (aW jF (by omega) (Int.toNat_natCast i) (cW hlt)) rfl ?_;dsimp only [aB,aA];refine vn (bO sS (by decide) (by simp) (.inl rfl)) rfl ?_;exact aL rfl
 rw [show p.getD i 0=0 by rw [List.getD_eq_getElem?_getD,List.getElem?_eq_none (by omega)];rfl];exact eG ⟨iZ,trivial⟩
theorem kH {A:Nat} {l:List Rat} (hA:1≤A) (h:∀ a∈l,Fit A a) (i:Nat):Fit A (l.getD i 0):=by
 rw [List.getD_eq_getElem?_getD];cases hi:l[i]? with
 | none=>exact Fit.zero hA
 | some a=>exact h a (List.mem_of_getElem? hi)
theorem QU (p q:List Rat) (i A B:Nat) (hi:i<4611686018427387904) (hA:1≤A) (hB:1≤B) (hp:∀ a∈p,Fit A a) (hq:∀ b∈q,Fit B b) (h:A+B≤34359738368):aM prog 108 [(.one (.int .i64 i):aF),(.one (.bE ([sQ p])):aF),(.one (.bE ([sQ q])):aF)] (.ret [qT (p.getD i 0+q.getD i 0)]):=by
 refine aD (args:=[.v none, .ref 1, .ref 1]) (ins:=[.v (.one (.int .i64 i)), .ref ([sQ p]), .ref ([sQ q])]) (hints:=(fun _=>none)) fo (by kernel_rfl) func108 ⟨rfl,rfl,rfl,trivial⟩ ?_;rw [Tf];dsimp only [List.map,In.env,aB,aA];refine aC (YO p i hi) rfl ?_;dsimp only [aB,aA];refine aC (YO q i hi) rfl ?_;dsimp only [aB,aA];refine aC (mL _ _ A B (kH hA hp i) (kH hB hq i) h) rfl ?_;exact aL rfl
def Gw (p q:List Rat):List Rat:=trim ((List.range (max p.length q.length)).map fun i=>p.getD i 0+q.getD i 0)
theorem at3 (p q:List Rat) (A B:Nat) (hA:1≤A) (hB:1≤B) (hp:∀ a∈p,Fit A a) (hq:∀ b∈q,Fit B b) (h:A+B≤34359738368) (hpl:p.length<1099511627776) (hql:q.length<1099511627776):aM prog 30 [(.one (sQ p):aF),(.one (sQ q):aF)] (.ret [.one (sQ (Gw p q))]):=by
 refine aD (args:=[.v none, .v none]) (ins:=[.v (.one (sQ p)), .v (.one (sQ q))]) (hints:=(fun _=>none)) fo (by kernel_rfl) func30 ⟨rfl,rfl,trivial⟩ ?_;rw [as9];dsimp only [List.map,In.env,aB,aA];refine vn (aP jF (List.length_map _)) rfl ?_;dsimp only [aB,aA];refine vn (aP jF (List.length_map _)) rfl ?_;dsimp only [aB,aA];refine vn (PC (k:=.i64) (a:=(p.length:Int)) (b:=(q.length:Int))) rfl ?_;rw [show max (p.length:Int) (q.length:Int)=((max p.length q.length:Nat):Int) by omega];dsimp only [aB,aA];refine aC (XH (max p.length q.length) 108 [.bE [sQ p], .bE [sQ q]] (fun i=>p.getD i 0+q.getD i 0) (fun i hi=>QU p q i A B (by omega) hA hB hp hq h) (by omega)) rfl ?_;exact aL rfl
def uF (p q:List Rat):List Rat:=if p = []∨q = [] then [] else trim (mulL p q p.length)
set_option maxHeartbeats 1000000 in
theorem ab8 (p q:List Rat) (D E S T B:Nat) (h0:D≠0) (h1:E≠0) (hp:∀ a∈p,Bd D S a) (hq:∀ b∈q,Bd E T b) (hB:B≤8589934592) (hX:D*E*((p.length+1)*((S+1)*(T+1)))<2^B) (hpl:p.length≤549755813888) (hql:q.length≤549755813888):aM prog 32 [(.one (sQ p):aF),(.one (sQ q):aF)] (.ret [.one (sQ (uF p q))]):=by
 refine aD (args:=[.v none, .v none]) (ins:=[.v (.one (sQ p)), .v (.one (sQ q))]) (hints:=(fun _=>none)) fo (by kernel_rfl) func32 ⟨rfl,rfl,trivial⟩ ?_;rw [at1];dsimp only [List.map,In.env,aB,aA];obtain ⟨f1,f2,f3,f4⟩:=Ja h0 h1 hX;refine vn (aP jF (List.length_map _)) rfl ?_;dsimp only [aB,aA];refine vn bL rfl ?_;dsimp only [aB,aA];refine vs _ rfl (fun h2=>?_) (fun h2=>?_)
 ·have hp0:p = []:=List.eq_nil_of_length_eq_zero (by omega);rw [uF,if_pos (.inl hp0)];exact eG ⟨aH.Sub.nil,trivial⟩
 refine vn (aP jF (List.length_map _)) rfl ?_;dsimp only [aB,aA];refine vn bL rfl ?_;dsimp only [aB,aA];refine vs _ rfl (fun h6=>?_) (fun h6=>?_)
 ·have hq0:q = []:=List.eq_nil_of_length_eq_zero (by omega);rw [uF,if_pos (.inr hq0)];exact eG ⟨aH.Sub.nil,trivial⟩
 have hp0:0<p.length:=by omega
 have hq0:0<q.length:=by omega
 rw [uF,if_neg (by rintro (h | h)
                   ·rw [h] at hp0;simp at hp0
                   ·rw [h] at hq0;simp at hq0)]
 obtain ⟨n,hn⟩:∃ n:Nat,(p.length:Int)+(q.length:Int)-1=(n:Int):=⟨p.length+q.length-1,by omega⟩
 have hn':p.length+q.length-1=n:=by omega
 refine vn (aP jF (List.length_map _)) rfl ?_;dsimp only [aB,aA];refine vn (aP jF (List.length_map _)) rfl ?_;dsimp only [aB,aA];refine vn (aE (by omega) (by omega)) rfl ?_;dsimp only [aB,aA];refine vn (aG (by omega) (by omega)) rfl ?_;rw [hn];dsimp only [aB,aA];refine rK (n:=n) (m:=n) rfl rfl rfl (Nat.le_refl _) (by omega) (by simp only [maxLen];omega) ?_;dsimp only [aB,aA];refine vn (aP jF (List.length_map _)) rfl ?_;dsimp only [aB,aA];refine bC {i:Nat // i≤p.length} (fun g=>[.one (.int .i64 g.1), .rows (rQ (mulL p q g.1))]) (fun g=>p.length-g.1) ⟨0,Nat.zero_le _⟩ ⟨aF.Sub.same,by show aF.Sub _ (.rows (rQ (mulL p q 0)));rw [mulL,hn'];exact QT n,trivial⟩ (fun _=>rfl) ?_;rintro ⟨i,hi⟩;dsimp only [aB,aA] at hi ⊢;refine vn bB rfl ?_;dsimp only [aB,aA];refine vs _ rfl (fun h16=>?_) (fun h16=>?_)
 ·refine vn (aW jF (by omega) (Int.toNat_natCast i) (cW (show i<p.length by omega))) rfl ?_;dsimp only [aB,aA];refine vn (bO sS (by decide) (by simp) (.inl rfl)) rfl ?_;dsimp only [aB,aA];refine aC (oD _) rfl ?_;dsimp only [aB,aA];refine vn bL rfl ?_;dsimp only [aB,aA];refine vs _ rfl (fun h21=>?_) (fun h21=>?_)
  ·have hz:p.getD i 0=0:=sign_zero.1 h21;refine vn (aE (by omega) (by omega)) rfl ?_;dsimp only [aB,aA];exact aR rfl ⟨⟨i+1,by omega⟩,(by dsimp only;rw [mulL,if_pos hz];exact aO.rfl),by show p.length-(i+1)<p.length-i;omega⟩
  have hz:¬ p.getD i 0=0:=fun h=>h21 (sign_zero.2 h);have ho:=AP h0 h1 hp hq i;have hi2:i<p.length:=by omega
  refine vn (aP jF (List.length_map _)) rfl ?_;dsimp only [aB,aA];refine bC {k:Nat // k≤q.length} (fun g=>[.one (.int .i64 g.1), .rows (rQ (gA (p.getD i 0) q i (mulL p q i) g.1))]) (fun g=>q.length-g.1) ⟨0,Nat.zero_le _⟩ aO.rfl (fun _=>rfl) ?_;rintro ⟨k,hk⟩;dsimp only [aB,aA] at hk ⊢;refine vn bB rfl ?_;dsimp only [aB,aA];refine vs _ rfl (fun h27=>?_) (fun h27=>?_)
  ·have hk2:k<q.length:=by omega
   have hrow:=Cv h0 h1 (iA hp i) hq ho k (i:=i);have hrl:(gA (p.getD i 0) q i (mulL p q i) k).length=n:=by rw [kD,iQ,hn']
   have hget:=cW (l:=gA (p.getD i 0) q i (mulL p q i) k) (i:=i+k) (by omega);have hfo:Fit B ((gA (p.getD i 0) q i (mulL p q i) k).getD (i+k) 0):=f3 _ i hi2 (hrow _ (List.mem_of_getElem? hget));refine vn (aW jF (by omega) (Int.toNat_natCast k) (cW hk2)) rfl ?_;dsimp only [aB,aA];refine vn (bO sS (by decide) (by simp) (.inl rfl)) rfl ?_;dsimp only [aB,aA];refine vn (aE (by omega) (by omega)) rfl ?_;dsimp only [aB,aA];refine vn (aE (by omega) (by omega)) rfl ?_;dsimp only [aB,aA];refine cV rfl rfl (by omega) (by omega) ?_;refine NH rfl rfl (by omega) (show ((i:Int)+(k:Int)).toNat=i+k by omega) hget (.inl rfl) rfl ?_;dsimp only [aB,aA,Mi,List.drop,List.take];refine aC (dF _ _ B B (f1 _ (iA hp i)) (f2 _ (iA hq k)) (by omega)) rfl ?_;dsimp only [aB,aA];refine aC (mL _ _ B B hfo (f4 _ ((iA hp i).mul h0 h1 (iA hq k))) (by omega)) rfl ?_;dsimp only [aB,aA];refine cV rfl rfl (by omega) (by omega) ?_;refine lR (f:=qC) (d':=(gA (p.getD i 0) q i (mulL p q i) k).getD (i+k) 0+p.getD i 0*q.getD k 0) rfl rfl (by omega) (show ((i:Int)+(k:Int)).toNat=i+k by omega) hget rfl ?_;dsimp only [aB,aA];refine vn (aE (by omega) (by omega)) rfl ?_;dsimp only [aB,aA];exact aR rfl ⟨⟨k+1,by omega⟩,aO.rfl,by show q.length-(k+1)<q.length-k;omega⟩
  refine vn (aE (by omega) (by omega)) rfl ?_;dsimp only [aB,aA]
  exact aR rfl ⟨⟨i+1,by omega⟩,(by
   dsimp only;rw [mulL,if_neg hz,show q.length=k by omega];exact aO.rfl),by show p.length-(i+1)<p.length-i;omega⟩
 rw [show p.length=i by omega];refine aC (wS _ (by rw [iQ];omega)) rfl ?_;exact aL rfl
theorem VR (c:Rat):aM prog 111 [(qT c:aF)] (.ret [.one (sQ [c,1])]):=by
 refine aD (args:=[.v (some 3)]) (ins:=[.v (qT c)]) (hints:=(fun _=>none)) fo (by kernel_rfl) func111 ⟨rfl,trivial⟩ ?_;rw [Xb];dsimp only [List.map,In.env,aB,aA];refine aC (jP 1 (by omega) (by omega)) rfl ?_;dsimp only [aB,aA];refine cL rfl ?_;exact aL rfl
theorem Hi (c:Rat):aM prog 190 [(qT c:aF)] (.ret [.one (sQ (trim [c]))]):=by
 refine aD (args:=[.v (some 3)]) (ins:=[.v (qT c)]) (hints:=(fun _=>none)) fo (by kernel_rfl) func190 ⟨rfl,trivial⟩ ?_;rw [Ih];dsimp only [List.map,In.env,aB,aA];refine cL rfl ?_;dsimp only [aB,aA];refine aC (wS [c] (by simp)) rfl ?_;exact aL rfl
end Go.Sy
