/- Polynomials as lists of coefficients: their values; two that are trimmed and have the same values are the same. A denominator that is known, and a bound: sums keep the denominator. The product of polynomials as it is made: row by row. Polynomials: the sum, the product, constants. Horner's rule over polynomials. Composition, and what polynomials made so are worth. Powers, falling factors, their sizes; the coefficients of a solution. The pieces of ode: falling factors, powers, quotients, the equation at a number.
-/
import Derived.Test.YtdmcadckdnnglaaGreatDoorPa
import Derived.Test.YtdmcadckdnnglaaGreatDoorPb
import Derived.Test.YtdmcadckdnnglaaGreatDoorOa
set_option linter.unusedVariables false
set_option linter.unusedSimpArgs false
namespace Ord
def ev (p:List Rat) (x:Rat):Rat:=p.foldr (fun a v=>v*x+a) 0
theorem dI (x:Rat):ev [] x=0:=rfl
theorem bM (a:Rat) (p:List Rat) (x:Rat):ev (a::p) x=ev p x*x+a:=rfl
theorem Fy (p q:List Rat) (x:Rat):ev (p++q) x=ev p x+x^p.length*ev q x:=by
 induction p with
 | nil=>simp only [List.nil_append,dI,List.length_nil];grind
 | cons a p ih=>simp only [List.cons_append,bM,ih,List.length_cons,Rat.pow_succ];grind
theorem an9 (p:List Rat) (i:Nat) (a b x:Rat) (h:p[i]? = some a):ev (p.set i b) x=ev p x+(b-a)*x^i:=by
 induction p generalizing i with
 | nil=>simp at h
 | cons c p ih=>
   cases i with
   | zero=>
     simp only [List.getElem?_cons_zero,Option.some.injEq] at h;subst h;simp only [List.set_cons_zero,bM,Rat.pow_zero];grind
   | succ i=>
     simp only [List.getElem?_cons_succ] at h;simp only [List.set_cons_succ,bM,ih i h,Rat.pow_succ];grind
theorem KW (n:Nat) (x:Rat):ev (List.replicate n 0) x=0:=by
 induction n with
 | zero=>rfl
 | succ n ih=>rw [List.replicate_succ,bM,ih];grind
theorem kR {p:List Rat} {i:Nat} {a:Rat} (h:p[i]? = some a) (x:Rat):ev (p.take (i+1)) x=ev (p.take i) x+a*x^i:=by
 have hi:i<p.length:=(List.getElem?_eq_some_iff.1 h).1;rw [List.take_add_one,h,Option.toList_some,Fy,List.length_take,Nat.min_eq_left (by omega),bM,dI];grind
theorem ME (k:Rat) (p:List Rat) (x:Rat):ev (p.map (· * k)) x=ev p x*k:=by
 induction p with
 | nil=>rw [List.map_nil,dI];grind
 | cons a p ih=>rw [List.map_cons,bM,bM,ih];grind
def Qo (c:Rat):List Rat→List Rat
 | []=>[]
 | [_]=>[]
 | _::b::p=>ev (b::p) c::Qo c (b::p)
theorem CF (c:Rat):∀ p:List Rat,(Qo c p).length=p.length-1
 | []=>rfl
 | [_]=>rfl
 | _::b::p=>by
   have:=CF c (b::p);simp only [List.length_cons] at this;simp only [Qo,List.length_cons,this];omega
theorem TL (c x:Rat):∀ p:List Rat,ev p x=ev p c+(x-c)*ev (Qo c p) x
 | []=>by simp only [dI,Qo];grind
 | [a]=>by simp only [bM,dI,Qo];grind
 | a::b::p=>by
   have ih:=TL c x (b::p);rw [bM a (b::p) x,bM a (b::p) c,Qo,bM (ev (b::p) c)];generalize ev (b::p) x=u at *;generalize ev (b::p) c=v at *;generalize ev (Qo c (b::p)) x=t at *;subst ih
   grind
theorem Ki (c:Rat):∀ p:List Rat,ev p c=0→(∀ a∈Qo c p,a=0)→∀ a∈p,a=0
 | [],_,_=>by simp
 | [a],h,_=>by
   rw [bM,dI] at h;intro x hx;simp only [List.mem_singleton] at hx;subst hx;grind
 | a::b::p,h,hs=>by
   rw [Qo] at hs;have h1:ev (b::p) c=0:=hs _ List.mem_cons_self;have ih:=Ki c (b::p) h1 fun y hy=>hs y (List.mem_cons_of_mem _ hy);rw [bM,h1] at h;intro x hx;rcases List.mem_cons.1 hx with rfl | hx
   ·grind
   ·exact ih x hx
theorem Gj:∀ (n:Nat) (p:List Rat),p.length≤n→(∀ i:Nat,i<n→ev p (i:Rat)=0)→∀ a∈p,a=0
 | 0,p,hl,_=>by
   have:p = []:=List.eq_nil_of_length_eq_zero (by omega);subst this;simp
 | n+1,p,hl,h=>by
   have h0:=h n (by omega);refine Ki _ p h0 (Gj n (Qo (n:Rat) p) (by rw [CF];omega) fun i hi=>?_);have h1:=h i (by omega);rw [TL (n:Rat) i p,h0] at h1
   have h2:((i:Rat)-(n:Rat))≠0:=by
    intro e;have e2:(i:Rat)=(n:Rat):=by grind
    have:=Rat.natCast_inj.1 e2;omega
   have h3:((i:Rat)-(n:Rat))*ev (Qo (n:Rat) p) i=0:=by grind
   rcases Rat.mul_eq_zero.1 h3 with h4 | h4
   ·exact (h2 h4).elim
   ·exact h4
def Zx:List Rat→List Rat→List Rat
 | [],q=>q.map (fun a=>-a)
 | a::p,[]=>a::p
 | a::p,b::q=>(a-b)::Zx p q
theorem TF:∀ (p q:List Rat) (x:Rat),ev (Zx p q) x=ev p x-ev q x
 | [],q,x=>by
   rw [Zx,dI]
   induction q with
   | nil=>rw [List.map_nil,dI];grind
   | cons b q ih=>rw [List.map_cons,bM,bM,ih];grind
 | a::p,[],x=>by rw [Zx,dI];grind
 | a::p,b::q,x=>by rw [Zx,bM,bM,bM,TF p q x];grind
def rV (p:List Rat):Prop:=∀ a,p.getLast? = some a→a≠0
theorem rV.tail {a:Rat} {p:List Rat} (h:rV (a::p)):rV p:=fun b hb=>h b (by
 cases p with
 | nil=>cases hb
 | cons c p=>rw [List.getLast?_cons_cons];exact hb)
theorem DS {p:List Rat} (h:rV p) (h0:∀ a∈p,a=0):p = []:=by
 cases hp:p.getLast? with
 | none=>exact List.getLast?_eq_none_iff.1 hp
 | some a=>exact (h a hp (h0 a (List.mem_of_getLast? hp))).elim
theorem Jf:∀ {p q:List Rat},rV p→rV q→(∀ a∈Zx p q,a=0)→p=q
 | [],q,_,hq,h=>by
   rw [Zx] at h;refine (DS hq fun a ha=>?_).symm;have:=h (-a) (List.mem_map.2 ⟨a,ha,rfl⟩)
   grind
 | a::p,[],hp,_,h=>DS hp h
 | a::p,b::q,hp,hq,h=>by
   rw [Zx] at h;have h1:=h _ List.mem_cons_self;have h2:=Jf hp.tail hq.tail fun x hx=>h x (List.mem_cons_of_mem _ hx);rw [h2,show a=b by grind]
theorem HI {p q:List Rat} (hp:rV p) (hq:rV q) (h:∀ x,ev p x=ev q x):p=q:=
 Jf hp hq (Gj _ _ (Nat.le_refl _) fun i _=>by rw [TF,h];grind)
end Ord
namespace Ord
def Bd (D S:Nat) (q:Rat):Prop:=q.den∣D∧q.num.natAbs≤S*q.den
theorem Bd.zero {D S:Nat}:Bd D S 0:=⟨⟨D,by simp⟩,by simp⟩
theorem Bd.one {D S:Nat} (h:1≤S):Bd D S 1:=⟨⟨D,by simp⟩,by simpa using h⟩
theorem Bd.int {D S:Nat} {n:Int} (h:n.natAbs≤S):Bd D S (n:Rat):=⟨⟨D,by simp⟩,by simpa using h⟩
theorem Bd.mono {D S E T:Nat} {q:Rat} (h:Bd D S q) (hD:D∣E) (hS:S≤T):Bd E T q:=
 ⟨Nat.dvd_trans h.1 hD,Nat.le_trans h.2 (Nat.mul_le_mul_right _ hS)⟩
theorem Bd.le {D S T:Nat} {q:Rat} (h:Bd D S q) (hS:S≤T):Bd D T q:=h.mono (Nat.dvd_refl _) hS
theorem Bd.neg {D S:Nat} {q:Rat} (h:Bd D S q):Bd D S (-q):=⟨h.1,by show (-q.num).natAbs≤S*q.den;rw [Int.natAbs_neg];exact h.2⟩
theorem Bd.mk {D S:Nat} {n:Int} (h0:D≠0) (h:n.natAbs≤S*D):Bd D S (mkRat n D):=by
 rw [←Rat.normalize_eq_mkRat h0,Rat.normalize_eq h0];show D/n.natAbs.gcd D∣D∧(n/((n.natAbs.gcd D:Nat):Int)).natAbs≤S*(D/n.natAbs.gcd D);have hg:0<n.natAbs.gcd D:=Nat.gcd_pos_of_pos_right _ (by omega);have hd:=Nat.gcd_dvd_right n.natAbs D;have hn:=Nat.gcd_dvd_left n.natAbs D;generalize n.natAbs.gcd D=g at *;obtain ⟨d',rfl⟩:=hd;obtain ⟨k,hk⟩:=Int.ofNat_dvd_left.2 hn;subst hk
 constructor
 ·rw [Nat.mul_div_cancel_left _ hg];exact Nat.dvd_mul_left _ _
 ·rw [Nat.mul_div_cancel_left _ hg,Int.mul_ediv_cancel_left _ (by omega)];rw [Int.natAbs_mul,Int.natAbs_natCast,Nat.mul_left_comm] at h;exact Nat.le_of_mul_le_mul_left h hg
theorem Bd.ex {D S:Nat} {q:Rat} (h:Bd D S q) (h0:D≠0):∃ n:Int,q=mkRat n D∧n.natAbs≤S*D:=by
 obtain ⟨⟨k,rfl⟩,h2⟩:=h;have hk:k≠0:=fun e=>h0 (by rw [e,Nat.mul_zero]);refine ⟨q.num*k,?_,?_⟩
 ·rw [Nat.mul_comm q.den k,Int.mul_comm,Rat.mkRat_mul_left hk,Rat.mkRat_self]
 ·rw [Int.natAbs_mul,Int.natAbs_natCast,←Nat.mul_assoc];exact Nat.mul_le_mul_right _ h2
theorem Bd.add {D S T:Nat} {a b:Rat} (h0:D≠0) (ha:Bd D S a) (hb:Bd D T b):Bd D (S+T) (a+b):=by
 obtain ⟨m,rfl,hm⟩:=ha.ex h0;obtain ⟨n,rfl,hn⟩:=hb.ex h0
 have e:mkRat m D+mkRat n D=mkRat (m+n) D:=by
  rw [Rat.mkRat_add_mkRat m n h0 h0,←Int.add_mul,Rat.mkRat_mul_right h0]
 rw [e];refine Bd.mk h0 (Nat.le_trans (Int.natAbs_add_le _ _) ?_);rw [Nat.add_mul];exact Nat.add_le_add hm hn
theorem Bd.sub {D S T:Nat} {a b:Rat} (h0:D≠0) (ha:Bd D S a) (hb:Bd D T b):Bd D (S+T) (a-b):=by
 rw [Rat.sub_eq_add_neg];exact ha.add h0 hb.neg
theorem Bd.mul {D E S T:Nat} {a b:Rat} (h0:D≠0) (h1:E≠0) (ha:Bd D S a) (hb:Bd E T b):Bd (D*E) (S*T) (a*b):=by
 obtain ⟨m,rfl,hm⟩:=ha.ex h0;obtain ⟨n,rfl,hn⟩:=hb.ex h1;rw [Rat.mkRat_mul_mkRat];refine Bd.mk (Nat.mul_ne_zero h0 h1) ?_;rw [Int.natAbs_mul];have:=Nat.mul_le_mul hm hn;rw [Nat.mul_mul_mul_comm] at this;exact this
theorem Bd.fit {D S B:Nat} {q:Rat} (h:Bd D S q) (h0:D≠0) (h1:D<2^B) (h2:S*D<2^B):Fit B q:=by
 have hd:=Nat.le_of_dvd (by omega) h.1;exact ⟨Nat.lt_of_le_of_lt (Nat.le_trans h.2 (Nat.mul_le_mul_left _ hd)) h2,Nat.lt_of_le_of_lt hd h1⟩
end Ord
namespace Ord
def fW (a:Rat) (q:List Rat) (i:Nat) (out:List Rat):Nat→List Rat
 | 0=>out
 | k+1=>(fW a q i out k).set (i+k) ((fW a q i out k).getD (i+k) 0+a*q.getD k 0)
def mulL (p q:List Rat):Nat→List Rat
 | 0=>List.replicate (p.length+q.length-1) 0
 | i+1=>if p.getD i 0=0 then mulL p q i else fW (p.getD i 0) q i (mulL p q i) q.length
theorem jT (a:Rat) (q:List Rat) (i:Nat) (out:List Rat):∀ k,(fW a q i out k).length=out.length
 | 0=>rfl
 | k+1=>by rw [fW,List.length_set,jT a q i out k]
theorem iG (p q:List Rat):∀ i,(mulL p q i).length=p.length+q.length-1
 | 0=>by rw [mulL,List.length_replicate]
 | i+1=>by
   rw [mulL];split
   ·exact iG p q i
   ·rw [jT,iG p q i]
theorem cI {l:List Rat} {i:Nat} (h:i<l.length):l[i]? = some (l.getD i 0):=by
 rw [List.getD_eq_getElem?_getD,List.getElem?_eq_getElem h];rfl
theorem mF (x:Rat) (i:Nat):∀ k:Nat,x^(i+k)=x^i*x^k
 | 0=>by rw [Nat.add_zero,Rat.pow_zero];grind
 | k+1=>by rw [←Nat.add_assoc,Rat.pow_succ,mF x i k,Rat.pow_succ];grind
theorem FD (a:Rat) (q:List Rat) (i:Nat) (out:List Rat) (x:Rat) (hl:i+q.length≤out.length):∀ k,k≤q.length→ev (fW a q i out k) x=ev out x+a*x^i*ev (q.take k) x
 | 0,_=>by rw [fW,List.take_zero,dI];grind
 | k+1,hk=>by
   have hget:=cI (l:=fW a q i out k) (i:=i+k) (by rw [jT];omega);rw [fW,an9 _ _ _ _ x hget,FD a q i out x hl k (by omega),kR (cI (l:=q) (by omega)) x,mF]
   grind
theorem Nw (p q:List Rat) (x:Rat) (hq:0<q.length):∀ i,i≤p.length→ev (mulL p q i) x=ev (p.take i) x*ev q x
 | 0,_=>by rw [mulL,KW,List.take_zero,dI];grind
 | i+1,hi=>by
   have ih:=Nw p q x hq i (by omega);rw [mulL,kR (cI (l:=p) (by omega)) x];split
   ·rename_i h0;rw [ih,h0];grind
   ·rw [FD _ _ _ _ x (by rw [iG];omega) _ (Nat.le_refl _),ih,List.take_length];grind
theorem gY {D S:Nat} {l:List Rat} (h:∀ a∈l,Bd D S a) (i:Nat):Bd D S (l.getD i 0):=by
 rw [List.getD_eq_getElem?_getD];cases hi:l[i]? with
 | none=>exact Bd.zero
 | some a=>exact h a (List.mem_of_getElem? hi)
def aQ9 (D S T:Nat) (i k:Nat) (l:List Rat):Prop:=∀ j a,l[j]? = some a→Bd D (if i≤j∧j<i+k then S+T else S) a
theorem Gr {D E S T U:Nat} (h0:D≠0) (h1:E≠0) {a:Rat} {q:List Rat} (ha:Bd D S a) (hq:∀ b∈q,Bd E T b) {i:Nat} {out:List Rat} (ho:∀ x∈out,Bd (D*E) U x):∀ k,aQ9 (D*E) U (S*T) i k (fW a q i out k)
 | 0=>fun j x hx=>by
   rw [if_neg (by omega)];exact ho x (List.mem_of_getElem? hx)
 | k+1=>fun j x hx=>by
   have ih:=Gr h0 h1 ha hq ho k (i:=i);rw [fW,List.getElem?_set] at hx;split at hx
   ·rename_i e;subst e;split at hx
    ·rename_i hlt;simp only [Option.some.injEq] at hx;subst hx;rw [if_pos (by omega)];refine Bd.add (Nat.mul_ne_zero h0 h1) ?_ (ha.mul h0 h1 (gY hq k));have:=ih (i+k) _ (cI hlt);rw [if_neg (by omega)] at this;exact this
    ·cases hx
   ·have:=ih j x hx;refine this.le ?_;by_cases h2:i≤j∧j<i+k
    ·rw [if_pos h2,if_pos (by omega)];exact Nat.le_refl _
    ·rw [if_neg h2];split
     ·exact Nat.le_add_right _ _
     ·exact Nat.le_refl _
theorem Da {D E S T U:Nat} (h0:D≠0) (h1:E≠0) {a:Rat} {q:List Rat} (ha:Bd D S a) (hq:∀ b∈q,Bd E T b) {i:Nat} {out:List Rat} (ho:∀ x∈out,Bd (D*E) U x) (k:Nat):∀ x∈fW a q i out k,Bd (D*E) (U+S*T) x:=fun x hx=>by
 obtain ⟨j,hj⟩:=List.mem_iff_getElem?.1 hx;refine (Gr h0 h1 ha hq ho k j x hj).le ?_;split
 ·exact Nat.le_refl _
 ·exact Nat.le_add_right _ _
theorem BJ {D E S T:Nat} (h0:D≠0) (h1:E≠0) {p q:List Rat} (hp:∀ a∈p,Bd D S a) (hq:∀ b∈q,Bd E T b):∀ i,∀ x∈mulL p q i,Bd (D*E) (i*(S*T)) x
 | 0=>fun x hx=>by
   rw [mulL] at hx;obtain ⟨_,rfl⟩:=List.mem_replicate.1 hx;exact Bd.zero
 | i+1=>fun x hx=>by
   rw [mulL] at hx;rw [Nat.add_mul,Nat.one_mul];split at hx
   ·exact (BJ h0 h1 hp hq i x hx).le (Nat.le_add_right _ _)
   ·exact Da h0 h1 (gY hp i) hq (BJ h0 h1 hp hq i) _ x hx
theorem Jv {D E S T B n:Nat} (h0:D≠0) (h1:E≠0) (hX:D*E*((n+1)*((S+1)*(T+1)))<2^B) :
  (∀ a,Bd D S a→Fit B a)∧(∀ b,Bd E T b→Fit B b)∧(∀ c (i:Nat),i<n→Bd (D*E) (i*(S*T)+S*T) c→Fit B c)∧(∀ c,Bd (D*E) (S*T) c→Fit B c):=by
 have hD:0<D:=Nat.pos_of_ne_zero h0;have hE:0<E:=Nat.pos_of_ne_zero h1;have hDE:0<D*E:=Nat.mul_pos hD hE
 have key:∀ X,X≤(n+1)*((S+1)*(T+1))→X*(D*E)<2^B:=fun X h=>by
  refine Nat.lt_of_le_of_lt ?_ hX;rw [Nat.mul_comm];exact Nat.mul_le_mul_left _ h
 have hST:(S+1)*(T+1)=S*T+S+T+1:=by rw [Nat.add_mul,Nat.mul_add];omega
 have hge:(S+1)*(T+1)≤(n+1)*((S+1)*(T+1)):=Nat.le_mul_of_pos_left _ (by omega);have k1:=key 1 (by omega);have kS:=key S (by omega);have kT:=key T (by omega);have kST:=key (S*T) (by omega);have hDle:D≤D*E:=Nat.le_mul_of_pos_right _ hE;have hEle:E≤D*E:=Nat.le_mul_of_pos_left _ hD;refine ⟨fun a ha=>ha.fit h0 (by omega) (Nat.lt_of_le_of_lt (Nat.mul_le_mul_left _ hDle) kS),fun b hb=>hb.fit h1 (by omega) (Nat.lt_of_le_of_lt (Nat.mul_le_mul_left _ hEle) kT),fun c i hi hc=>?_,fun c hc=>hc.fit (by omega) (by omega) kST⟩;refine hc.fit (by omega) (by omega) (key _ ?_);have e:i*(S*T)+S*T=(i+1)*(S*T):=by rw [Nat.add_mul,Nat.one_mul]
 rw [e];exact Nat.mul_le_mul (by omega) (by omega)
end Ord
namespace Go.Sy
open Go Go.Proofs Tryz Ord
def af8:Tr:=bR .lss 3 11 10 4 0 3 0 0 (.split (.u 6 0) (.need (.callv (.u 1 0) [(W 4 0)] [(some 3)]) (.call ⟨.value (tT 16),#[(tT 17)],#[3]⟩) 39 true (.need (.idx 5 (.u 4 0)) (.indexAddr 72 (tT 14) (tT 15)) 0 false (.need (.strow 5 3 (.u 4 0) 0 [(.u 7 0),(.u 7 1),(.u 7 2)]) (.store 39 (tT 19) (tT 18)) 0 false (bB .add 3 11 1 4 0 3 (.back 0 [lV 9 0, .row 8]))))) (aP 34 [(.one (.c (.sr 3 5)))] [none] [21] [72] 72 true (.ret [(W 7 0)])))
def ay0:Tr:=.need (.make [(.slice none 0 0),(.bool false),(.slice none 0 0)] 56 (.u 0 0) (.u 0 0)) (.makeSlice 72 (tT 7) (tT 7)) 72 false (.need (.lenrow 2) (.call ⟨.builtin .len,#[(tT 9)],#[72]⟩) 3 false (.loop 0 [lK 0, .row 2] af8))
theorem Ww:aN prog f107 (fun _=>none) [.v none, .v none]=ay0:=by kernel_rfl
def UU:Tr:=.ret [(G3 5)]
def aq0:Tr:=cY 0 0 6 72 (bR .lss 3 5 7 1 0 2 0 4 (.split (.u 3 0) (gE 0 0 1 0 72 9 10 (eY 4 0 (some 3) 39 11 UU)) (.ret [(.agg [tN,(tE (.bool false)),tN])])))
theorem aJ3:aN prog f109 (fun _=>none) [.v none, .v none]=aq0:=by kernel_rfl
def as1:Tr:=aP 109 [(W 1 0),(W 0 0)] [(some 3)] [5,6] [72,3] 39 false (aP 109 [(W 2 0),(W 0 0)] [(some 3)] [8,9] [72,3] 39 true (aP 64 [(G3 3),(G3 4)] [(some 3)] [7,10] [39,39] 39 true UU))
theorem Up:aN prog f108 (fun _=>none) [.v none, .ref 1, .ref 1]=as1:=by kernel_rfl
def KP:Tr:=.ret [(W 5 0)]
def ad7:Tr:=cY 0 0 5 72 (cY 1 0 7 72 (.need (.prim [(W 2 0),(W 3 0)] none) (.call ⟨.builtin .max,#[(tT 6),(tT 8)],#[3,3]⟩) 3 false (aP 107 [(W 4 0),(.one (.fX 108 [(.ref 0 [(.u 0 0)]),(.ref 0 [(.u 1 0)])]))] [none] [9,10] [3,177] 72 true KP)))
theorem al0:aN prog f30 (fun _=>none) [.v none, .v none]=ad7:=by kernel_rfl
def TM:Tr:=.ret [(.one (.c (.k (.slice none 0 0))))]
def WI:Tr:=.need (.ldrow 21 (.u 26 0) 0 3 true) (.load 39 (tT 50)) 39 false (aP 36 [(G3 16),(G3 24)] [(some 3)] [52,53] [39,39] 39 true (aP 64 [(G3 27),(G3 28)] [(some 3)] [51,54] [39,39] 39 true (.need (.idx 21 (.u 25 0)) (.indexAddr 72 (tT 42) (tT 45)) 0 false (.need (.strow 21 3 (.u 25 0) 0 [(.u 29 0),(.u 29 1),(.u 29 2)]) (.store 39 (tT 56) (tT 55)) 0 false (bB .add 3 37 1 20 0 3 (.back 1 [lV 31 0, .row 30]))))))
def XI:Tr:=bR .lss 3 37 36 20 0 19 0 0 (.split (.u 22 0) (gE 1 0 20 0 72 35 37 (eY 23 0 (some 3) 39 40 (bR .add 3 43 44 12 0 20 0 3 (bR .add 3 47 48 12 0 20 0 3 (.need (.idx 21 (.u 26 0)) (.indexAddr 72 (tT 46) (tT 49)) 0 false WI))))) (bB .add 3 27 1 12 0 3 (.back 0 [lV 23 0, .row 21])))
def YV:Tr:=gE 0 0 12 0 72 25 27 (eY 15 0 (some 3) 39 30 (aP 35 [(G3 16)] [none] [32] [39] 3 true (bB .eql 3 33 0 17 0 4 (.split (.u 18 0) (bB .add 3 27 1 12 0 3 (.back 0 [lV 19 0, .row 13])) (cY 1 0 35 72 (.loop 1 [lK 0, .row 13] XI))))))
def Xn:Tr:=.need (.make [(.slice none 0 0),(.bool false),(.slice none 0 0)] 56 (.u 9 0) (.u 9 0)) (.makeSlice 72 (tT 23) (tT 23)) 72 false (cY 0 0 25 72 (.loop 0 [lK 0, .row 10] (bR .lss 3 27 26 12 0 11 0 0 (.split (.u 14 0) YV (aP 34 [(.one (.c (.sr 3 13)))] [none] [59] [72] 72 true (.ret [(W 15 0)]))))))
def aC0:Tr:=cY 1 0 14 72 (bB .eql 3 15 0 4 0 4 (.split (.u 5 0) TM (cY 0 0 18 72 (cY 1 0 20 72 (bR .add 3 19 21 6 0 7 0 3 (bB .sub 3 22 1 8 0 3 Xn))))))
def ac3:Tr:=cY 0 0 10 72 (bB .eql 3 11 0 2 0 4 (.split (.u 3 0) TM aC0))
theorem ac2:aN prog f32 (fun _=>none) [.v none, .v none]=ac3:=by kernel_rfl
def ay7:Tr:=.need (.call 68 [(WK 1)] [(some 3)]) (.call ⟨.value (.func 68),#[(.const (I3 1))],#[2]⟩) 39 true (.need (.lit 3 [[(.u 0 0),(.u 0 1),(.u 0 2)],[(.u 1 0),(.u 1 1),(.u 1 2)]]) (.buildSlice 72 2 #[(0,(tT 3)),(1,(tT 4))]) 72 false (.ret [(.one (.c (.sr 3 2)))]))
theorem Yq:aN prog f111 (fun _=>none) [.v (some 3)]=ay7:=by kernel_rfl
def SP:Tr:=.ret [(W 2 0)]
def az8:Tr:=.need (.lit 3 [[(.u 0 0),(.u 0 1),(.u 0 2)]]) (.buildSlice 72 1 #[(0,(tT 3))]) 72 false (aP 34 [(.one (.c (.sr 3 1)))] [none] [4] [72] 72 true SP)
theorem Ib:aN prog f190 (fun _=>none) [.v (some 3)]=az8:=by kernel_rfl
theorem PR (n:Nat):aX (aX aI.Sub) (List.replicate n [.exact (.slice none 0 0), .bool false, .exact (.slice none 0 0)]) (rQ (List.replicate n 0)):=by
 induction n with
 | zero=>trivial
 | succ n ih=>rw [List.replicate_succ,List.replicate_succ];exact ⟨eV,ih⟩
theorem SQ (n:Nat):aG.Sub (.rows (List.replicate n [.exact (.slice none 0 0), .bool false, .exact (.slice none 0 0)])) (.rows (rQ (List.replicate n 0))):=PR n
def part (f:Nat→Rat) (n i:Nat):List Rat:=(List.range i).map f++List.replicate (n-i) 0
theorem JY {f:Nat→Rat} {n i:Nat} (h:i≤n):(part f n i).length=n:=by simp [part];omega
theorem Jt {f:Nat→Rat} {n i:Nat} (h:i<n):(part f n i).set i (f i)=part f n (i+1):=by
 rw [part,part,List.range_succ,List.map_append,List.set_append_right _ _ (by simp)];rw [show n-i=(n-(i+1))+1 by omega,List.replicate_succ];simp
theorem YN (n:Nat) (g:Nat) (caps:List aI) (f:Nat→Rat) (hf:∀ i,i<n→aK prog g (.one (.int .i64 (i:Int))::caps.map .one) (.ret [qT (f i)])) (hn:n<1099511627776):aK prog 107 [(.one (.int .i64 n):aG),(.one (.fX g caps):aG)] (.ret [.one (sQ (trim ((List.range n).map f)))]):=by
 refine aD (args:=[.v none, .v none]) (ins:=[.v (.one (.int .i64 n)), .v (.one (.fX g caps))]) (hints:=(fun _=>none)) fo (by kernel_rfl) func107 ⟨rfl,rfl,trivial⟩ ?_;rw [Ww];dsimp only [List.map,In.env,aA,aB];refine tI (n:=n) (m:=n) rfl rfl rfl (Nat.le_refl _) (by omega) (by simp only [maxLen];omega) ?_;dsimp only [aA,aB];refine Ll rfl (List.length_replicate) ?_;dsimp only [aA,aB];refine bF {i:Nat // i≤n} (fun g=>[.one (.int .i64 g.1), .rows (rQ (part f n g.1))]) (fun g=>n-g.1) ⟨0,Nat.zero_le _⟩ ⟨aG.Sub.same,SQ n,trivial⟩ (fun _=>rfl) ?_;rintro ⟨i,hi⟩;dsimp only [aA,aB] at hi ⊢;have hpl:=JY (f:=f) hi;refine vn bE rfl ?_;dsimp only [aA,aB];refine vs _ rfl (fun h4=>?_) (fun h4=>?_)
 ·refine tP (f:=g) (caps:=caps) rfl (hf i (by omega)) rfl ?_;dsimp only [aA,aB];refine cV rfl rfl (by omega) (by first | omega | (rw [List.length_set];omega)) ?_;obtain ⟨q,hq⟩:∃ q,(part f n i)[i]? = some q:=⟨_,List.getElem?_eq_getElem (by omega)⟩
  refine lY (f:=qC) (d':=f i) rfl rfl (by omega) (Int.toNat_natCast i) hq rfl ?_;rw [Jt (by omega)];dsimp only [aA,aB];refine vn (aE (by omega) (by omega)) rfl ?_;dsimp only [aA,aB];exact aU rfl ⟨⟨i+1,by omega⟩,aO.rfl,by show n-(i+1)<n-i;omega⟩
 have hin:i=n:=by omega
 subst hin;rw [show part f i i=(List.range i).map f by simp [part]];refine aC (zE ((List.range i).map f) (by rw [List.length_map,List.length_range];omega)) rfl ?_;exact aL rfl
theorem ZM (p:List Rat) (i:Nat) (hi:i<4611686018427387904):aK prog 109 [(.one (sQ p):aG),(.one (.int .i64 i):aG)] (.ret [qT (p.getD i 0)]):=by
 refine aD (args:=[.v none, .v none]) (ins:=[.v (.one (sQ p)), .v (.one (.int .i64 i))]) (hints:=(fun _=>none)) fo (by kernel_rfl) func109 ⟨rfl,rfl,trivial⟩ ?_;rw [aJ3];dsimp only [List.map,In.env,aA,aB];refine vn (aQ jF (List.length_map _)) rfl ?_;dsimp only [aA,aB];refine vn bE rfl ?_;dsimp only [aA,aB];refine vs _ rfl (fun h2=>?_) (fun h2=>?_)
 ·have hlt:i<p.length:=by omega
  refine vn (aY jF (by omega) (Int.toNat_natCast i) (cI hlt)) rfl ?_;dsimp only [aA,aB];refine vn (bZ rZ (by decide) (by simp) (.inl rfl)) rfl ?_;exact aL rfl
 rw [show p.getD i 0=0 by rw [List.getD_eq_getElem?_getD,List.getElem?_eq_none (by omega)];rfl];exact eN ⟨eV,trivial⟩
theorem mD {A:Nat} {l:List Rat} (hA:1≤A) (h:∀ a∈l,Fit A a) (i:Nat):Fit A (l.getD i 0):=by
 rw [List.getD_eq_getElem?_getD];cases hi:l[i]? with
 | none=>exact Fit.zero hA
 | some a=>exact h a (List.mem_of_getElem? hi)
theorem TA (p q:List Rat) (i A B:Nat) (hi:i<4611686018427387904) (hA:1≤A) (hB:1≤B) (hp:∀ a∈p,Fit A a) (hq:∀ b∈q,Fit B b) (h:A+B≤34359738368):aK prog 108 [(.one (.int .i64 i):aG),(.one (.bC ([sQ p])):aG),(.one (.bC ([sQ q])):aG)] (.ret [qT (p.getD i 0+q.getD i 0)]):=by
 refine aD (args:=[.v none, .ref 1, .ref 1]) (ins:=[.v (.one (.int .i64 i)), .ref ([sQ p]), .ref ([sQ q])]) (hints:=(fun _=>none)) fo (by kernel_rfl) func108 ⟨rfl,rfl,rfl,trivial⟩ ?_;rw [Up];dsimp only [List.map,In.env,aA,aB];refine aC (ZM p i hi) rfl ?_;dsimp only [aA,aB];refine aC (ZM q i hi) rfl ?_;dsimp only [aA,aB];refine aC (kF _ _ A B (mD hA hp i) (mD hB hq i) h) rfl ?_;exact aL rfl
def Hb (p q:List Rat):List Rat:=trim ((List.range (max p.length q.length)).map fun i=>p.getD i 0+q.getD i 0)
theorem ap0 (p q:List Rat) (A B:Nat) (hA:1≤A) (hB:1≤B) (hp:∀ a∈p,Fit A a) (hq:∀ b∈q,Fit B b) (h:A+B≤34359738368) (hpl:p.length<1099511627776) (hql:q.length<1099511627776):aK prog 30 [(.one (sQ p):aG),(.one (sQ q):aG)] (.ret [.one (sQ (Hb p q))]):=by
 refine aD (args:=[.v none, .v none]) (ins:=[.v (.one (sQ p)), .v (.one (sQ q))]) (hints:=(fun _=>none)) fo (by kernel_rfl) func30 ⟨rfl,rfl,trivial⟩ ?_;rw [al0];dsimp only [List.map,In.env,aA,aB];refine vn (aQ jF (List.length_map _)) rfl ?_;dsimp only [aA,aB];refine vn (aQ jF (List.length_map _)) rfl ?_;dsimp only [aA,aB];refine vn (UB (k:=.i64) (a:=(p.length:Int)) (b:=(q.length:Int))) rfl ?_;rw [show max (p.length:Int) (q.length:Int)=((max p.length q.length:Nat):Int) by omega];dsimp only [aA,aB];refine aC (YN (max p.length q.length) 108 [.bC [sQ p], .bC [sQ q]] (fun i=>p.getD i 0+q.getD i 0) (fun i hi=>TA p q i A B (by omega) hA hB hp hq h) (by omega)) rfl ?_;exact aL rfl
def vC (p q:List Rat):List Rat:=if p = []∨q = [] then [] else trim (mulL p q p.length)
set_option maxHeartbeats 1000000 in
theorem at0 (p q:List Rat) (D E S T B:Nat) (h0:D≠0) (h1:E≠0) (hp:∀ a∈p,Bd D S a) (hq:∀ b∈q,Bd E T b) (hB:B≤8589934592) (hX:D*E*((p.length+1)*((S+1)*(T+1)))<2^B) (hpl:p.length≤549755813888) (hql:q.length≤549755813888):aK prog 32 [(.one (sQ p):aG),(.one (sQ q):aG)] (.ret [.one (sQ (vC p q))]):=by
 refine aD (args:=[.v none, .v none]) (ins:=[.v (.one (sQ p)), .v (.one (sQ q))]) (hints:=(fun _=>none)) fo (by kernel_rfl) func32 ⟨rfl,rfl,trivial⟩ ?_;rw [ac2];dsimp only [List.map,In.env,aA,aB];obtain ⟨f1,f2,f3,f4⟩:=Jv h0 h1 hX;refine vn (aQ jF (List.length_map _)) rfl ?_;dsimp only [aA,aB];refine vn bW rfl ?_;dsimp only [aA,aB];refine vs _ rfl (fun h2=>?_) (fun h2=>?_)
 ·have hp0:p = []:=List.eq_nil_of_length_eq_zero (by omega);rw [vC,if_pos (.inl hp0)];exact eN ⟨aI.Sub.nil,trivial⟩
 refine vn (aQ jF (List.length_map _)) rfl ?_;dsimp only [aA,aB];refine vn bW rfl ?_;dsimp only [aA,aB];refine vs _ rfl (fun h6=>?_) (fun h6=>?_)
 ·have hq0:q = []:=List.eq_nil_of_length_eq_zero (by omega);rw [vC,if_pos (.inr hq0)];exact eN ⟨aI.Sub.nil,trivial⟩
 have hp0:0<p.length:=by omega
 have hq0:0<q.length:=by omega
 rw [vC,if_neg (by rintro (h | h)
                   ·rw [h] at hp0;simp at hp0
                   ·rw [h] at hq0;simp at hq0)]
 obtain ⟨n,hn⟩:∃ n:Nat,(p.length:Int)+(q.length:Int)-1=(n:Int):=⟨p.length+q.length-1,by omega⟩
 have hn':p.length+q.length-1=n:=by omega
 refine vn (aQ jF (List.length_map _)) rfl ?_;dsimp only [aA,aB];refine vn (aQ jF (List.length_map _)) rfl ?_;dsimp only [aA,aB];refine vn (aE (by omega) (by omega)) rfl ?_;dsimp only [aA,aB];refine vn (aJ (by omega) (by omega)) rfl ?_;rw [hn];dsimp only [aA,aB];refine tI (n:=n) (m:=n) rfl rfl rfl (Nat.le_refl _) (by omega) (by simp only [maxLen];omega) ?_;dsimp only [aA,aB];refine vn (aQ jF (List.length_map _)) rfl ?_;dsimp only [aA,aB];refine bF {i:Nat // i≤p.length} (fun g=>[.one (.int .i64 g.1), .rows (rQ (mulL p q g.1))]) (fun g=>p.length-g.1) ⟨0,Nat.zero_le _⟩ ⟨aG.Sub.same,by show aG.Sub _ (.rows (rQ (mulL p q 0)));rw [mulL,hn'];exact SQ n,trivial⟩ (fun _=>rfl) ?_;rintro ⟨i,hi⟩;dsimp only [aA,aB] at hi ⊢;refine vn bE rfl ?_;dsimp only [aA,aB];refine vs _ rfl (fun h16=>?_) (fun h16=>?_)
 ·refine vn (aY jF (by omega) (Int.toNat_natCast i) (cI (show i<p.length by omega))) rfl ?_;dsimp only [aA,aB];refine vn (bZ rZ (by decide) (by simp) (.inl rfl)) rfl ?_;dsimp only [aA,aB];refine aC (oQ _) rfl ?_;dsimp only [aA,aB];refine vn bW rfl ?_;dsimp only [aA,aB];refine vs _ rfl (fun h21=>?_) (fun h21=>?_)
  ·have hz:p.getD i 0=0:=sign_zero.1 h21;refine vn (aE (by omega) (by omega)) rfl ?_;dsimp only [aA,aB];exact aU rfl ⟨⟨i+1,by omega⟩,(by dsimp only;rw [mulL,if_pos hz];exact aO.rfl),by show p.length-(i+1)<p.length-i;omega⟩
  have hz:¬ p.getD i 0=0:=fun h=>h21 (sign_zero.2 h);have ho:=BJ h0 h1 hp hq i;have hi2:i<p.length:=by omega
  refine vn (aQ jF (List.length_map _)) rfl ?_;dsimp only [aA,aB];refine bF {k:Nat // k≤q.length} (fun g=>[.one (.int .i64 g.1), .rows (rQ (fW (p.getD i 0) q i (mulL p q i) g.1))]) (fun g=>q.length-g.1) ⟨0,Nat.zero_le _⟩ aO.rfl (fun _=>rfl) ?_;rintro ⟨k,hk⟩;dsimp only [aA,aB] at hk ⊢;refine vn bE rfl ?_;dsimp only [aA,aB];refine vs _ rfl (fun h27=>?_) (fun h27=>?_)
  ·have hk2:k<q.length:=by omega
   have hrow:=Da h0 h1 (gY hp i) hq ho k (i:=i);have hrl:(fW (p.getD i 0) q i (mulL p q i) k).length=n:=by rw [jT,iG,hn']
   have hget:=cI (l:=fW (p.getD i 0) q i (mulL p q i) k) (i:=i+k) (by omega);have hfo:Fit B ((fW (p.getD i 0) q i (mulL p q i) k).getD (i+k) 0):=f3 _ i hi2 (hrow _ (List.mem_of_getElem? hget));refine vn (aY jF (by omega) (Int.toNat_natCast k) (cI hk2)) rfl ?_;dsimp only [aA,aB];refine vn (bZ rZ (by decide) (by simp) (.inl rfl)) rfl ?_;dsimp only [aA,aB];refine vn (aE (by omega) (by omega)) rfl ?_;dsimp only [aA,aB];refine vn (aE (by omega) (by omega)) rfl ?_;dsimp only [aA,aB];refine cV rfl rfl (by omega) (by omega) ?_;refine Uw rfl rfl (by omega) (show ((i:Int)+(k:Int)).toNat=i+k by omega) hget (.inl rfl) rfl ?_;dsimp only [aA,aB,Qa,List.drop,List.take];refine aC (cP _ _ B B (f1 _ (gY hp i)) (f2 _ (gY hq k)) (by omega)) rfl ?_;dsimp only [aA,aB];refine aC (kF _ _ B B hfo (f4 _ ((gY hp i).mul h0 h1 (gY hq k))) (by omega)) rfl ?_;dsimp only [aA,aB];refine cV rfl rfl (by omega) (by omega) ?_;refine lY (f:=qC) (d':=(fW (p.getD i 0) q i (mulL p q i) k).getD (i+k) 0+p.getD i 0*q.getD k 0) rfl rfl (by omega) (show ((i:Int)+(k:Int)).toNat=i+k by omega) hget rfl ?_;dsimp only [aA,aB];refine vn (aE (by omega) (by omega)) rfl ?_;dsimp only [aA,aB];exact aU rfl ⟨⟨k+1,by omega⟩,aO.rfl,by show q.length-(k+1)<q.length-k;omega⟩
  refine vn (aE (by omega) (by omega)) rfl ?_;dsimp only [aA,aB]
  exact aU rfl ⟨⟨i+1,by omega⟩,(by
   dsimp only;rw [mulL,if_neg hz,show q.length=k by omega];exact aO.rfl),by show p.length-(i+1)<p.length-i;omega⟩
 rw [show p.length=i by omega];refine aC (zE _ (by rw [iG];omega)) rfl ?_;exact aL rfl
theorem YW (c:Rat):aK prog 111 [(qT c:aG)] (.ret [.one (sQ [c,1])]):=by
 refine aD (args:=[.v (some 3)]) (ins:=[.v (qT c)]) (hints:=(fun _=>none)) fo (by kernel_rfl) func111 ⟨rfl,trivial⟩ ?_;rw [Yq];dsimp only [List.map,In.env,aA,aB];refine aC (iV 1 (by omega) (by omega)) rfl ?_;dsimp only [aA,aB];refine dC rfl ?_;exact aL rfl
theorem Jd (c:Rat):aK prog 190 [(qT c:aG)] (.ret [.one (sQ (trim [c]))]):=by
 refine aD (args:=[.v (some 3)]) (ins:=[.v (qT c)]) (hints:=(fun _=>none)) fo (by kernel_rfl) func190 ⟨rfl,trivial⟩ ?_;rw [Ib];dsimp only [List.map,In.env,aA,aB];refine dC rfl ?_;dsimp only [aA,aB];refine aC (zE [c] (by simp)) rfl ?_;exact aL rfl
open Go Go.Proofs Go.RowKit Go.Shelf Tryz Ord
attribute [local go_sem] Oper.semAt_some
section
variable (M:Nat→Prop) (w:World) (Pq:Rat→Prop)
structure PV where
 q:Rat
 u0:Value
 u1:Value
 u2:Value
 ok:Pq q
 rep:aW M w (qC q) [u0,u1,u2]
end
theorem ah6 {M:Nat→Prop} {w:World} {Pq:Rat→Prop} {v:Value} {ps:List Rat} (h:(sQ ps).rep M w v) (hp:∀ q∈ps,Pq q) :
  ∃ (ts:List (PV M w Pq)) (a:Option Addr) (cap:Nat),v = .slice a ts.length cap∧ts.map PV.q=ps∧ZZ PV.u0 PV.u1 PV.u2 w.heap.size w v ts:=by
 obtain ⟨a,cap,rfl,hc,hm,hel⟩:=h;have hlen:(rQ ps).length=ps.length:=List.length_map _;rcases hel with h | ⟨b,off,cs,T,fz,rfl,hb,hh,hr⟩
 ·have:ps = []:=by cases ps<;>simp_all [rQ]
  subst this;exact ⟨[],a,cap,rfl,rfl,a,cap,rfl, .inl rfl⟩
 ·obtain ⟨ts,h1,h2⟩:=oL (fun i (x:PV M w Pq)=>ps[i]? = some x.q∧w.cell? ⟨b,off+i*3,none⟩=some x.u0∧w.cell? ⟨b,off+i*3+1,none⟩=some x.u1∧w.cell? ⟨b,off+i*3+2,none⟩=some x.u2) ps.length fun i hi=>by
   obtain ⟨q,hq⟩:∃ q,ps[i]? = some q:=⟨_,List.getElem?_eq_getElem hi⟩
   obtain ⟨_,hrep⟩:=hr i (qC q) (by rw [rQ,List.getElem?_map,hq];rfl)
   have hat:∀ j,j<3→((cs.toList.drop (off+i*3)).take 3)[j]? = cs[off+i*3+j]?:=fun j hj=>by
    rw [List.getElem?_take,if_pos hj,List.getElem?_drop];simp
   have hl:=hrep.length;generalize hus:(cs.toList.drop (off+i*3)).take 3=us at hrep hl hat
   match us,hrep with
   | [x0,x1,x2],hrep=>
     refine ⟨⟨q,x0,x1,x2,hp q (List.mem_of_getElem? hq),hrep⟩,hq,?_,?_,?_⟩
     ·have h0:=hat 0 (by omega);rw [Nat.add_zero] at h0;exact aH hh (by rw [←h0];rfl)
     ·exact aH hh (by rw [←hat 1 (by omega)];rfl)
     ·exact aH hh (by rw [←hat 2 (by omega)];rfl)
   | [],hrep=>exact hrep.elim
   | [_],hrep=>exact hrep.2.elim
   | [_,_],hrep=>exact hrep.2.2.elim
   | _::_::_::_::_,hrep=>exact hrep.2.2.2.elim
  refine ⟨ts,_,cap,by rw [hlen,h1],?_,_,cap,by rw [hlen,h1], .inr ⟨b,off,rfl,(Array.getElem?_eq_some_iff.1 hh).1,fun j v hj=>(h2 j v hj).2⟩⟩;refine List.ext_getElem? fun i=>?_;rw [List.getElem?_map];cases hi:ts[i]? with
  | none=>
    have:=List.getElem?_eq_none_iff.1 hi;rw [List.getElem?_eq_none_iff.2 (by omega)];rfl
  | some x=>rw [(h2 i x hi).1];rfl
def hP {M:Nat→Prop} {w:World} {Pq:Rat→Prop} (f:List Rat→Rat→List Rat) (pre:List (Nat×PV M w Pq)):List Rat:=pre.foldl (fun v c=>f v c.2.q) []
theorem Yr {M:Nat→Prop} {w:World} {Pq:Rat→Prop} (f:List Rat→Rat→List Rat) (pre:List (Nat×PV M w Pq)) (y:Nat×PV M w Pq):hP f (pre ++ [y])=f (hP f pre) y.2.q:=by simp [hP]
theorem ah8 {M:Nat→Prop} {w:World} {Pq:Rat→Prop} {f:List Rat→Rat→List Rat} {Inv:Nat→List Rat→Prop} (h0:Inv 0 []) (hs:∀ k v c,Inv k v→Pq c→Inv (k+1) (f v c)) (pre:List (Nat×PV M w Pq)):Inv pre.length (hP f pre):=by
 have key:∀ (l:List (Nat×PV M w Pq)) (k:Nat) (v:List Rat),Inv k v→Inv (k+l.length) (l.foldl (fun v c=>f v c.2.q) v):=by
  intro l
  induction l with
  | nil=>intro k v h;exact h
  | cons y l ih=>
    intro k v h;have:=ih (k+1) (f v y.2.q) (hs k v _ h y.2.ok);rw [List.length_cons,show k+(l.length+1)=k+1+l.length by omega];exact this
 have:=key pre 0 [] h0
 rwa [Nat.zero_add] at this
theorem PQ {M:Nat→Prop} {w:World} {c:aI} {vs:List Value} (h:cG M w [.one c] vs):∃ v,pack vs=v∧c.rep M w v:=by
 match vs,h with
 | [v],h=>exact ⟨v,rfl,h.1⟩
 | [],h=>exact h.elim
 | _::_::_,h=>exact h.2.elim
set_option maxRecDepth 100000 in
set_option maxHeartbeats 1000000 in
theorem KM (M:Nat→Prop) (w:World) (Pq:Rat→Prop) (f:List Rat→Rat→List Rat) (Inv:Nat→List Rat→Prop) (g:FuncId) (caps:List aI) (h0:Inv 0 []) (hinv:∀ k v c,Inv k v→Pq c→Inv (k+1) (f v c))
  (hM:dK M w) [Inhabited (PV M w Pq)] (a:Option Addr) (cap:Nat) (ts:List (PV M w Pq)) (hlen:ts.length<4611686018427387904)
  (hstep:∀ k v c,k<ts.length→Inv k v→Pq c→aK prog g (.one (sQ v)::qT c::caps.map .one) (.ret [.one (sQ (f v c))]))
  (hI:ZZ PV.u0 PV.u1 PV.u2 w.heap.size w (.slice a ts.length cap) ts) (z:Value) (hz:(sQ []).rep M w z) (cvs:List Value) (hcv:aW M w caps cvs) :
  CallsIn Fence.wide 1001 prog 188 #[.slice a ts.length cap,z, .func (.func g) #[] cvs.toArray] w fun e W'=>Below w.heap.size w W'∧∃ u,e = .returned u∧(sQ (hP f (bk ts ts.length))).rep M W' u:=by
 refine callsIn_of_wp_marks func188 rfl trivial ?_ rfl;simp only [ntmps188,List.size_toArray,List.length_cons,List.length_nil,Nat.reduceAdd,Nat.reduceSub,Array.replicate_succ,Array.replicate_zero,List.push_toArray,List.append_toArray,List.nil_append,List.cons_append];generalize hL:ts.length=L at hI hlen hstep ⊢;obtain ⟨za,zl,zc,rfl⟩:∃ za zl zc,z = .slice za zl zc:=by obtain ⟨za,zc,e,_⟩:=hz;exact ⟨_,_,_,e⟩
 gi_wp2_with (refine ⟨trivial,?_⟩;gi_at_call 248;refine (KD _ _ _ _ _).mono ?_;rintro e w' ⟨rfl,rfl⟩)
 obtain ⟨n0,hn0⟩:∃ n0,w.heap.size=n0:=⟨_,rfl⟩
 obtain ⟨hM,hMg⟩:=hM;rw [hn0] at hI hM ⊢;obtain ⟨W0,hW0⟩:∃ W0,(((w.alloc (.cells #[.slice za zl zc] 72)).alloc (.cells #[.func (.func g) #[] cvs.toArray] 250)).alloc (.cells #[.slice a L cap] 72))=W0:=⟨_,rfl⟩
 have hs0:W0.heap.size=n0+3:=by rw [←hW0];simp [hn0]
 have hX0:W0.heap[n0]? = some (.cells #[.slice za zl zc] 72 (0,0)):=by rw [←hW0,heap_alloc_old _ _ _ (by simp;omega),heap_alloc_old _ _ _ (by simp;omega),←hn0];exact heap_alloc_new w _
 have hS0:W0.heap[n0+1]? = some (.cells #[.func (.func g) #[] cvs.toArray] 250 (0,0)):=by
  rw [←hW0,heap_alloc_old _ _ _ (by simp;omega)];have:=heap_alloc_new (w.alloc (.cells #[.slice za zl zc] 72)) (.cells #[.func (.func g) #[] cvs.toArray] 250);rw [World.size_alloc,hn0] at this;exact this
 have hP0:W0.heap[n0+2]? = some (.cells #[.slice a L cap] 72 (0,0)):=by
  rw [←hW0];have:=heap_alloc_new ((w.alloc (.cells #[.slice za zl zc] 72)).alloc (.cells #[.func (.func g) #[] cvs.toArray] 250)) (.cells #[.slice a L cap] 72);rw [World.size_alloc,World.size_alloc,hn0] at this;exact this
 have hB0:Below n0 w W0:=by
  rw [←hW0];exact (((Below.refl _ w).alloc (by omega) _).alloc (by simp;omega) _).alloc (by simp;omega) _
 rw [hW0]
 refine wpIn_rangeFunc_ownH (w0:=W0) rfl (by omega) (gf:=281) (lb:=#[.pointer (some ⟨n0+1+1,0,none⟩)]) rfl trivial (enters_of func281 (by kernel_rfl) rfl)
  (Be (e0:=PV.u0) (e1:=PV.u1) (e2:=PV.u2) (n0+2) n0 (.slice a L cap) ts (by omega) W0 (by omega) (by omega) (aH hP0 rfl) (hI.below hB0)) Nz (NP (by omega) (by omega)) (Below.refl _ _) (fun _=>rfl)
  (fun pre W=>Below n0 w W∧n0+3≤W.heap.size∧W.heap[n0+1]? = some (.cells #[.func (.func g) #[] cvs.toArray] 250 (0,0)) ∧
   ∃ ua ul uc,W.heap[n0]? = some (.cells #[.slice ua ul uc] 72 (0,0))∧(sQ (hP f pre)).rep (fun b=>M b∨b=n0) W (.slice ua ul uc))
  (fun _ _ _=>False) ?own (fun _=>by intro s A B row hs;exact hs.elim) ?start
  (fun y a' W=>∃ b,n0+3≤b∧a' = { tmps:=#[.slice a L cap, .slice za zl zc, .func (.func g) #[] cvs.toArray,undef, .pointer (some ⟨n0,0,none⟩), .pointer (some ⟨n0+1,0,none⟩), .slice none 0 0,undef, .pointer (some ⟨b,0,none⟩), .slice a L cap, .func (.func 281) #[] #[.pointer (some ⟨n0+1+1,0,none⟩)], .int .i64 (y.1:Int), .agg #[y.2.u0,y.2.u1,y.2.u2],undef,undef,undef,undef,undef],defers:=[] } ∧ W.heap[b]? = some (.cells #[y.2.u0,y.2.u1,y.2.u2] 39 (0,0)))
  ?ax ?assign ?body ?done ?stop
 case own=>
  rintro s A A' row ⟨h1,h2,h3,ua,ul,uc,h5,h6⟩ hg hr;have hr':∀ r,row=some r→∃ o:Obj,A.heap[r]? = some o∧o.isCells=false:=fun r e=>(hr r e).2;refine ⟨h1.grown hg (by omega) (fun k e=>by have:=(hr k e).1;omega),Nat.le_trans h2 hg.size,dY hg hr' h3 rfl,ua,ul,uc,dY hg hr' h5 rfl,aI.mono _ (fun b o hb ho hc=>⟨hb,dY hg hr' ho hc⟩) h6⟩
 case start=>
  refine ⟨hB0,by omega,hS0,za,zl,zc,hX0,aI.mono _ (fun b o hb ho hc=>?_) hz⟩;have hlt:=(Array.getElem?_eq_some_iff.1 ho).1;exact ⟨fun h=>h.elim hb (by omega),(hB0.block b (by omega)).trans ho⟩
 case ax=>
  rintro y a' _ A A' row ⟨b,h1,h2,h3⟩ hg hr;exact ⟨b,h1,h2,dY hg (fun r e=>(hr r e).2) h3 rfl⟩
 case assign=>
  rintro l pre y W K ⟨h1,h2,h3,ua,ul,uc,h5,h6⟩ hK
  gi_wp2
  obtain ⟨o0,o1,o2⟩:y.2.u0.oneCell'=true∧y.2.u1.oneCell'=true∧y.2.u2.oneCell'=true:=by
   have:=y.2.rep.one;exact ⟨this _ (by simp),this _ (by simp),this _ (by simp)⟩
  have hnew:=heap_alloc_new W (.cells #[.slice none 0 0, .bool false, .slice none 0 0] 39);rw [vS hnew o0 o1 o2];obtain ⟨W',hW'⟩:∃ W',(W.alloc (.cells #[.slice none 0 0, .bool false, .slice none 0 0] 39)).setRow W.heap.size #[y.2.u0,y.2.u1,y.2.u2]=W':=⟨_,rfl⟩
  have hold:∀ k,k<W.heap.size→W'.heap[k]? = W.heap[k]?:=fun k hk=>by rw [←hW',setRow_other _ _ _ _ (by omega),heap_alloc_old _ _ _ hk]
  have hself:W'.heap[W.heap.size]? = some (.cells #[y.2.u0,y.2.u1,y.2.u2] 39 (0,0)):=by rw [←hW'];exact setRow_heap _ _ _ _ _ _ hnew
  have hbel:Below W.heap.size W W':=by rw [←hW'];exact below_setRow ((Below.refl _ W).alloc (Nat.le_refl _) _) (Nat.le_refl _) _
  have hlt:∀ {k:Nat} {o:Obj},W.heap[k]? = some o→k<W.heap.size:=fun h=>(Array.getElem?_eq_some_iff.1 h).1;rw [hW']
  gi_wp2
  refine hK _ _ ⟨hbel.size,fun k o _ ho _=>(hold k (hlt ho)).trans ho⟩ ⟨hbel.mono (by omega),fun v hv=>?_⟩
   ⟨h1.trans (hbel.mono (by omega)),Nat.le_trans h2 hbel.size,(hold _ (hlt h3)).trans h3,ua,ul,uc,(hold _ (hlt h5)).trans h5,aI.mono _ (fun b o hb ho _=>⟨hb,(hold b (hlt ho)).trans ho⟩) h6⟩
   ⟨W.heap.size,by omega,rfl,hself⟩
  simp only [World.cell?,hold (n0+2) (by omega)] at hv ⊢;exact hv
 case body=>
  rintro l pre y a' W hl _ ⟨h1,h2,h3,ua,ul,uc,h5,h6⟩ ⟨b,hb,rfl,hbc⟩ hlt;have hltW:∀ {k:Nat} {o:Obj},W.heap[k]? = some o→k<W.heap.size:=fun h=>(Array.getElem?_eq_some_iff.1 h).1;have c0:W.cell? ⟨n0,0,none⟩=some (.slice ua ul uc):=aH h5 rfl;have cs:W.cell? ⟨n0+1,0,none⟩=some (.func (.func g) #[] cvs.toArray):=aH h3 rfl;have cb0:W.cell? ⟨b,0,none⟩=some y.2.u0:=aH hbc rfl;have cb1:W.cell? ⟨b,1,none⟩=some y.2.u1:=aH hbc rfl;have cb2:W.cell? ⟨b,2,none⟩=some y.2.u2:=aH hbc rfl;have hM1:∀ k,(M k∨k=n0)→k<W.heap.size:=fun k h=>h.elim (fun h=>by have:=hM k h;omega) (fun h=>by omega)
  have hkeep:bX M w (fun b=>M b∨b=n0) W:=fun k o hk ho _=>by
   have hlt:=(Array.getElem?_eq_some_iff.1 ho).1;exact ⟨fun h=>h.elim hk (by omega),(h1.block k (by omega)).trans ho⟩
  rw [hL] at hlt;have hdo:=hstep pre.length (hP f pre) y.2.q hlt (ah8 h0 hinv pre) y.2.ok
  have hcall:Calls prog g (Value.slice ua ul uc::Value.agg #[y.2.u0,y.2.u1,y.2.u2]::cvs).toArray W fun e w'=>Below W.heap.size W w'∧∃ va vl vc,e = .returned (.slice va vl vc)∧(sQ (hP f (pre ++ [y]))).rep (fun b=>M b∨b=n0) w' (.slice va vl vc):=by
   have h7:=hdo.2 (fun b=>M b∨b=n0) W (.slice ua ul uc :: .agg #[y.2.u0,y.2.u1,y.2.u2]::cvs) ⟨hM1,hMg.iY hkeep⟩ ⟨h6,⟨[_,_,_],rfl,y.2.rep.mono hkeep⟩,cG.uY (hcv.mono hkeep)⟩;refine h7.mono ?_;rintro e w' ⟨hb',vs,rfl,hvs⟩;rw [Yr];obtain ⟨v,e1,hr⟩:=PQ hvs;have hr':=hr;obtain ⟨va,vc,rfl,_⟩:=hr';exact ⟨hb',va,_,vc,by rw [e1],hr⟩
  have eg:∀ args w,(callFunc g args).run prog w = .ok (.enter g args) w:=hdo.1
  gi_wp2
  refine ⟨trivial,(CallsIn.inRound l (callsIn_wide.2 hcall)).mono ?_⟩;rintro e w' ⟨hbw,va,vl,vc,rfl,hvr⟩;have hbox:w'.heap[n0]? = some (.cells #[.slice ua ul uc] 72 (0,0)):=(hbw.block n0 (hltW h5)).trans h5;have d0:w'.cell? ⟨n0,0,none⟩=some (.slice ua ul uc):=aH hbox rfl;have df:w'.frozen? ⟨n0,0,none⟩=false:=by simp [World.frozen?,hbox]
  gi_wp2
  rw [setCell_eq_setRow w' n0 0 #[.slice ua ul uc] 72 (0,0) (.slice va vl vc) hbox];obtain ⟨W3,hW3⟩:∃ W3,w'.setRow n0 (#[Value.slice ua ul uc].setIfInBounds 0 (.slice va vl vc))=W3:=⟨_,rfl⟩
  have hself:W3.heap[n0]? = some (.cells #[.slice va vl vc] 72 (0,0)):=by rw [←hW3];exact setRow_heap _ _ _ _ _ _ hbox
  have hoth:∀ k,k≠n0→W3.heap[k]? = w'.heap[k]?:=fun k hk=>by rw [←hW3,setRow_other _ _ _ _ hk]
  have hold:∀ {k:Nat} {o:Obj},k≠n0→W.heap[k]? = some o→W3.heap[k]? = some o:=fun hk ho=>(hoth _ hk).trans ((hbw.block _ (hltW ho)).trans ho);have hbel:Below n0 W W3:=by rw [←hW3];exact below_setRow (hbw.mono (by omega)) (Nat.le_refl _) _
  rw [hW3];refine ⟨⟨hbel.size,fun k o hk ho _=>hold (by omega) ho⟩,⟨hbel,fun v hv=>?_⟩,h1.trans hbel,Nat.le_trans h2 hbel.size,hold (by omega) h3,va,vl,vc,hself,aI.mono _ (fun k o hk ho hc=>⟨hk,(hoth k fun e=>hk (.inr e)).trans ho⟩) hvr⟩;simp only [World.cell?,hoth (n0+2) (by omega),hbw.block (n0+2) (by omega)] at hv ⊢;exact hv
 case done=>
  rintro D ys W hD rfl ⟨h1,h2,h3,ua,ul,uc,h5,h6⟩ hK;have c0:W.cell? ⟨n0,0,none⟩=some (.slice ua ul uc):=aH h5 rfl
  gi_wp2
  refine ⟨by simp, .inl ⟨_,_,rfl,run_takeDeferred hK,?_⟩⟩;refine ⟨_,results_tmp rfl _ _ _,?_,⟨_,rfl,by rw [←hL];exact aI.mono _ (fun k o hk ho hc=>⟨fun h=>hk (.inl h),(World.putObj_heap_other (fun e=>by rw [e,hK] at ho;cases ho;cases hc)).trans ho⟩) h6⟩⟩;rw [←hn0] at h1;exact h1.trans (belowK_b (w:=w) (Nat.le_refl _) W D _ _ (by omega) hK rfl rfl)
 case stop=>
  rintro D c pre W hD _ h hK;exact h.elim
theorem aG0 {M:Nat→Prop} {w:World} {Pq:Rat→Prop} [Inhabited (PV M w Pq)] (f:List Rat→Rat→List Rat) (ts:List (PV M w Pq)):hP f (bk ts ts.length)=(ts.map PV.q).foldr (fun c v=>f v c) []:=by
 have h:hP f (bk ts ts.length)=((bk ts ts.length).map Prod.snd).foldl (fun v c=>f v c.q) []:=by rw [hP,List.foldl_map]
 rw [h,QU,List.foldl_reverse,List.foldr_map]
theorem MF (ps:List Rat) (Pq:Rat→Prop) (f:List Rat→Rat→List Rat) (Inv:Nat→List Rat→Prop) (g:FuncId) (caps:List aI) (h0:Inv 0 []) (hinv:∀ k v c,Inv k v→Pq c→Inv (k+1) (f v c))
  (hp:∀ q∈ps,Pq q) (hz:Pq 0) (hlen:ps.length<4611686018427387904)
  (hstep:∀ k v c,k<ps.length→Inv k v→Pq c→aK prog g (.one (sQ v)::qT c::caps.map .one) (.ret [.one (sQ (f v c))])) :
  aK prog 188 [.one (sQ ps), .one (sQ []), .one (.fX g caps)] (.ret [.one (sQ (ps.foldr (fun c v=>f v c) []))]):=by
 refine ⟨bP (by kernel_rfl),fun M w vs hM hv=>?_⟩
 match vs,hv with
 | [v0,v1,v2],⟨k0,k1,⟨fs,k2,hfs⟩,_⟩=>
   obtain ⟨ts,a,cap,rfl,hq,hsl⟩:=ah6 k0 hp
   haveI:Inhabited (PV M w Pq):=⟨⟨0, .slice none 0 0, .bool false, .slice none 0 0,hz,aW.sub eV ⟨⟨rfl,rfl⟩,⟨rfl,rfl⟩,⟨rfl,rfl⟩,trivial⟩⟩⟩
   subst k2;have hl:ps.length=ts.length:=by rw [←hq,List.length_map]
   have h1:=KM M w Pq f Inv g caps h0 hinv hM a cap ts (by omega) (by rw [←hl];exact hstep) hsl v1 k1 fs hfs;rw [aG0,hq] at h1;refine ((callsIn_wide (n:=1001)).1 h1).mono ?_;rintro e w' ⟨hb,u,rfl,hr⟩;exact ⟨hb,[u],rfl,hr,trivial⟩
 | [],hv=>exact hv.elim
 | [_],hv=>exact hv.2.elim
 | [_,_],hv=>exact hv.2.2.elim
 | _::_::_::_::_,hv=>exact hv.2.2.2.elim
end Go.Sy
namespace Go.Sy
open Go Go.Proofs Tryz Ord
theorem kX (x:Rat):∀ p:List Rat,ev (trim p) x=ev p x
 | []=>rfl
 | a::p=>by
   have ih:=kX x p;unfold trim at ih ⊢;rw [cW];split
   ·rename_i h;rw [h.1,List.take_zero,dI] at ih;have ha:a=0:=by simpa [zr] using h.2
    rw [List.take_zero,dI,bM,←ih,ha];grind
   ·rw [List.take_succ_cons,bM,bM,ih]
theorem mO:∀ p:List Rat,rV (trim p)
 | []=>fun a h=>by cases h
 | a::p=>by
   have ih:=mO p;unfold trim at ih ⊢;rw [cW];split
   ·intro b hb;cases hb
   ·rename_i h;intro b hb;rw [List.take_succ_cons,List.getLast?_cons] at hb;cases hl:(p.take (cW zr p)).getLast? with
    | some c=>
      rw [hl] at hb;simp only [Option.getD_some,Option.some.injEq] at hb;subst hb;exact ih c hl
    | none=>
      rw [hl] at hb;simp only [Option.getD_none,Option.some.injEq] at hb;subst hb;intro e;refine h ⟨?_,by simp [zr,e]⟩;have h1:=List.getLast?_eq_none_iff.1 hl;have h2:min (cW zr p) p.length=0:=by rw [←List.length_take,h1];rfl
      have:=gL (z:=zr) p;omega
theorem Co (x:Rat):∀ (p:List Rat) (m:Nat),p.length≤m→ev ((List.range m).map fun i=>p.getD i 0) x=ev p x
 | [],m,_=>by
   have:(List.range m).map (fun i=>([]:List Rat).getD i 0)=List.replicate m 0:=by
    apply List.ext_getElem?;intro i;rw [List.getElem?_map,List.getElem?_replicate];by_cases h:i<m
    ·rw [List.getElem?_range h,if_pos h];rfl
    ·rw [if_neg h,List.getElem?_eq_none (by simpa using h)];rfl
   rw [this,KW,dI]
 | a::p,0,h=>by simp at h
 | a::p,m+1,h=>by
   rw [List.range_succ_eq_map,List.map_cons,bM,List.map_map,bM];have:=Co x p m (by simpa using h);rw [←this];rfl
theorem Uo (x:Rat) (f g:Nat→Rat):∀ l:List Nat,ev (l.map fun i=>f i+g i) x=ev (l.map f) x+ev (l.map g) x
 | []=>by simp only [List.map_nil,dI];grind
 | a::l=>by rw [List.map_cons,List.map_cons,List.map_cons,bM,bM,bM,Uo x f g l];grind
theorem ML (x:Rat) (p q:List Rat):ev (Hb p q) x=ev p x+ev q x:=by
 rw [Hb,kX,Uo,Co x p _ (Nat.le_max_left _ _),Co x q _ (Nat.le_max_right _ _)]
theorem VS (x:Rat) (p q:List Rat):ev (vC p q) x=ev p x*ev q x:=by
 unfold vC;split
 ·rename_i h;rcases h with rfl | rfl
  ·rw [dI];grind
  ·rw [dI];grind
 ·rename_i h;have hq:0<q.length:=List.length_pos_iff.2 fun e=>h (.inr e);rw [kX,Nw p q x hq _ (Nat.le_refl _),List.take_length]
theorem Ds (p q:List Rat):rV (Hb p q):=mO _
theorem wW {p:List Rat} {a:Rat} (h:a∈trim p):a∈p:=List.mem_of_mem_take h
theorem oO (p:List Rat):(trim p).length≤p.length:=by rw [eM];exact gL _
theorem Ju (p q:List Rat):(Hb p q).length≤max p.length q.length:=by
 have:=oO ((List.range (max p.length q.length)).map fun i=>p.getD i 0+q.getD i 0);rw [List.length_map,List.length_range] at this;exact this
theorem Xo {D S T:Nat} (h0:D≠0) {p q:List Rat} (hp:∀ a∈p,Bd D S a) (hq:∀ a∈q,Bd D T a):∀ a∈Hb p q,Bd D (S+T) a:=fun a ha=>by
 obtain ⟨i,_,rfl⟩:=List.mem_map.1 (wW ha);exact (gY hp i).add h0 (gY hq i)
theorem AR (p q:List Rat):(vC p q).length≤if p = [] then 0 else p.length+q.length-1:=by
 unfold vC;split
 ·simp
 ·rename_i h;rw [if_neg (fun e=>h (.inl e))];have:=oO (mulL p q p.length);rw [iG] at this;exact this
theorem Np {D E S T:Nat} (h0:D≠0) (h1:E≠0) {p q:List Rat} (hp:∀ a∈p,Bd D S a) (hq:∀ b∈q,Bd E T b):∀ x∈vC p q,Bd (D*E) (p.length*(S*T)) x:=fun x hx=>by
 unfold vC at hx;split at hx
 ·cases hx
 ·exact BJ h0 h1 hp hq _ x (wW hx)
def Ga (q v:List Rat) (c:Rat):List Rat:=Hb (vC v q) (trim [c])
def tQ (p q:List Rat):List Rat:=p.foldr (fun c v=>Ga q v c) []
theorem AF (x:Rat) (q:List Rat):∀ p:List Rat,ev (tQ p q) x=ev p (ev q x)
 | []=>rfl
 | a::p=>by
   have ih:=AF x q p;unfold tQ at ih ⊢;rw [List.foldr_cons,Ga,ML,VS,kX,ih,bM,bM,dI];grind
theorem lM (p q:List Rat):rV (tQ p q):=by
 cases p with
 | nil=>intro a h;cases h
 | cons a p=>exact Ds _ _
def Ti (D E S T K:Nat) (k:Nat) (v:List Rat):Prop:=k≤K→v.length≤k∧∀ a∈v,Bd (D*E^k) (S*(K*T+1)^k) a
theorem Pf {D E S T K:Nat}:Ti D E S T K 0 []:=fun _=>⟨Nat.le_refl _,fun a h=>by cases h⟩
theorem Mg {E:Nat} (h:E≠0) (k:Nat):E^k≠0:=fun e=>h (Nat.pow_eq_zero.1 e).1
theorem Qh {D E S T K:Nat} (h0:D≠0) (h1:E≠0) {q:List Rat} (hq:∀ b∈q,Bd E T b) (hql:q.length≤2) (k:Nat) (v:List Rat) (c:Rat) (h:Ti D E S T K k v) (hc:Bd D S c):Ti D E S T K (k+1) (Ga q v c):=by
 intro hk;obtain ⟨hl,hb⟩:=h (by omega);have hDk:D*E^k≠0:=Nat.mul_ne_zero h0 (Mg h1 k);have hD1:D*E^(k+1)≠0:=Nat.mul_ne_zero h0 (Mg h1 _)
 constructor
 ·have h2:=Ju (vC v q) (trim [c]);have h3:=AR v q;have h4:=oO [c];unfold Ga;split at h3<;>simp at h4<;>omega
 ·have h2:=Np hDk h1 hb hq
  have h3:∀ x∈vC v q,Bd (D*E^(k+1)) (K*T*(S*(K*T+1)^k)) x:=fun x hx=>by
   refine (h2 x hx).mono ⟨1,by rw [Nat.pow_succ,Nat.mul_one,Nat.mul_assoc]⟩ ?_;have:v.length*(S*(K*T+1)^k*T)≤K*(S*(K*T+1)^k*T):=Nat.mul_le_mul_right _ (by omega);refine Nat.le_trans this (Nat.le_of_eq ?_);rw [Nat.mul_comm (S*_) T,Nat.mul_assoc]
  have h4:∀ x∈trim [c],Bd (D*E^(k+1)) (S*(K*T+1)^k) x:=fun x hx=>by
   have:=wW hx;rw [List.mem_singleton] at this;subst this;exact hc.mono (Nat.dvd_mul_right _ _) (Nat.le_mul_of_pos_right _ (Nat.pow_pos (by omega)))
  intro a ha;refine (Xo hD1 h3 h4 a ha).le (Nat.le_of_eq ?_);rw [Nat.pow_succ];generalize (K*T+1)^k=r;generalize K*T=u
  grind
def qL (D E S T K:Nat):Nat:=D*E^K*E*((K+1)*((S*(K*T+1)^K+1)*(T+1)))
theorem LO {D E S T K k n:Nat} (h0:D≠0) (h1:E≠0) (hk:k≤K) (hn:n≤K):D*E^k*E*((n+1)*((S*(K*T+1)^k+1)*(T+1)))≤qL D E S T K:=by
 unfold qL;refine Nat.mul_le_mul (Nat.mul_le_mul_right _ (Nat.mul_le_mul_left _ (Nat.pow_le_pow_right (by omega) hk))) (Nat.mul_le_mul (by omega) (Nat.mul_le_mul_right _ ?_));have:=Nat.mul_le_mul_left S (Nat.pow_le_pow_right (n:=K*T+1) (by omega) hk);omega
def ab5:Tr:=aP 32 [(W 0 0),(W 2 0)] [none] [6,7] [72,72] 72 false (aP 190 [(G3 1)] [none] [9] [39] 72 true (aP 30 [(W 3 0),(W 4 0)] [none] [8,10] [72,72] 72 true KP))
theorem GH:aN prog f189 (fun _=>none) [.v none, .v (some 3), .ref 1]=ab5:=by kernel_rfl
def ao9:Tr:=.need (.call 188 [(W 0 0),(.one (.c (.k (.slice none 0 0)))),(.one (.fX 189 [(.ref 0 [(.u 1 0)])]))] [none]) (.call ⟨.value (.func 188),#[(tT 5),(.const (.slice none 0 0)),(tT 6)],#[72,72,250]⟩) 72 true SP
theorem Ml:aN prog f110 (fun _=>none) [.v none, .v none]=ao9:=by kernel_rfl
def ah0:Tr:=aP 111 [(G3 1)] [none] [6] [39] 72 true (aP 110 [(W 0 0),(W 2 0)] [none] [5,7] [72,72] 72 true (.ret [(W 3 0)]))
theorem Sc:aN prog f31 (fun _=>none) [.v none, .v (some 3)]=ah0:=by kernel_rfl
theorem HF (v q:List Rat) (c:Rat) (D E S T K k B:Nat) (h0:D≠0) (h1:E≠0) (hq:∀ b∈q,Bd E T b) (hql:q.length≤2) (hv:Ti D E S T K k v) (hc:Bd D S c) (hk:k<K) (hK:K≤1073741824) (hB:B≤8589934592) (hX:qL D E S T K<2^B):aK prog 189 [(.one (sQ v):aG),(qT c:aG),(.one (.bC ([sQ q])):aG)] (.ret [.one (sQ (Ga q v c))]):=by
 refine aD (args:=[.v none, .v (some 3), .ref 1]) (ins:=[.v (.one (sQ v)), .v (qT c), .ref ([sQ q])]) (hints:=(fun _=>none)) fo (by kernel_rfl) func189 ⟨rfl,rfl,rfl,trivial⟩ ?_;rw [GH];dsimp only [List.map,In.env,aA,aB];obtain ⟨hl,hb⟩:=hv (by omega);have hDk:D*E^k≠0:=Nat.mul_ne_zero h0 (Mg h1 k);have hX1:=Nat.lt_of_le_of_lt (LO (S:=S) (T:=T) (k:=k) (n:=v.length) h0 h1 (by omega) (show v.length≤K by omega)) hX;obtain ⟨f1,f2,f3,f4⟩:=Jv hDk h1 hX1
 have hB1:1≤B:=by
  rcases Nat.eq_zero_or_pos B with rfl | h
  ·exfalso
   have:0<D*E^k*E*((v.length+1)*((S*(K*T+1)^k+1)*(T+1))):=Nat.mul_pos (Nat.pos_of_ne_zero (Nat.mul_ne_zero hDk h1)) (Nat.mul_pos (by omega) (Nat.mul_pos (by omega) (by omega)));omega
  ·exact h
 have hm:∀ a∈vC v q,Fit B a:=fun a ha=>by
  have:=Np hDk h1 hb hq a ha;rcases Nat.eq_zero_or_pos v.length with h | h
  ·have:v = []:=List.eq_nil_of_length_eq_zero h;subst this;simp [vC] at ha
  ·refine f3 a (v.length-1) (by omega) (this.le (Nat.le_of_eq ?_));rw [show v.length=v.length-1+1 by omega,Nat.add_mul,Nat.one_mul,Nat.add_sub_cancel]
 have ht:∀ a∈trim [c],Fit B a:=fun a ha=>by
  have:=wW ha;rw [List.mem_singleton] at this;subst this;exact f1 _ (hc.mono (Nat.dvd_mul_right _ _) (Nat.le_mul_of_pos_right _ (Nat.pow_pos (by omega))))
 have l1:=AR v q;have l2:=oO [c];refine aC (at0 v q (D*E^k) E (S*(K*T+1)^k) T B hDk h1 hb hq hB hX1 (by omega) (by omega)) rfl ?_;dsimp only [aA,aB];refine aC (Jd c) rfl ?_;dsimp only [aA,aB];refine aC (ap0 (vC v q) (trim [c]) B B hB1 hB1 hm ht (by omega) (by split at l1<;>omega) (by simp at l2;omega)) rfl ?_;exact aL rfl
theorem Lg (p q:List Rat) (D E S T K B:Nat) (h0:D≠0) (h1:E≠0) (hp:∀ a∈p,Bd D S a) (hq:∀ b∈q,Bd E T b) (hql:q.length≤2) (hpl:p.length≤K) (hK:K≤1073741824) (hB:B≤8589934592) (hX:qL D E S T K<2^B):aK prog 110 [(.one (sQ p):aG),(.one (sQ q):aG)] (.ret [.one (sQ (tQ p q))]):=by
 refine aD (args:=[.v none, .v none]) (ins:=[.v (.one (sQ p)), .v (.one (sQ q))]) (hints:=(fun _=>none)) fo (by kernel_rfl) func110 ⟨rfl,rfl,trivial⟩ ?_;rw [Ml];dsimp only [List.map,In.env,aA,aB]
 refine BW (show aO [.one (sQ p), .one (.exact (.slice none 0 0)), .one (.fX 189 [.bC [sQ q]])] [.one (sQ p), .one (sQ []), .one (.fX 189 [.bC [sQ q]])] from ⟨aG.Sub.same,aI.Sub.nil,aG.Sub.same,trivial⟩)
  (MF p (Bd D S) (fun v c=>Ga q v c) (Ti D E S T K) 189 [.bC [sQ q]] Pf (fun k v c hv hc=>Qh h0 h1 hq hql k v c hv hc) hp Bd.zero (by omega)
   (fun k v c hk hv hc=>HF v q c D E S T K k B h0 h1 hq hql hv hc (by omega) hK hB hX)) rfl ?_
 exact aL rfl
def dD (p:List Rat) (c:Rat):List Rat:=tQ p [c,1]
theorem lF (p:List Rat) (c x:Rat):ev (dD p c) x=ev p (x+c):=by
 rw [dD,AF];simp only [bM,dI]
 congr 1;grind
theorem QN (p:List Rat) (c:Rat) (D E S T K B:Nat) (h0:D≠0) (h1:E≠0) (hp:∀ a∈p,Bd D S a) (hc:Bd E T c) (hT:1≤T) (hpl:p.length≤K) (hK:K≤1073741824) (hB:B≤8589934592) (hX:qL D E S T K<2^B):aK prog 31 [(.one (sQ p):aG),(qT c:aG)] (.ret [.one (sQ (dD p c))]):=by
 refine aD (args:=[.v none, .v (some 3)]) (ins:=[.v (.one (sQ p)), .v (qT c)]) (hints:=(fun _=>none)) fo (by kernel_rfl) func31 ⟨rfl,rfl,trivial⟩ ?_;rw [Sc];dsimp only [List.map,In.env,aA,aB];refine aC (YW c) rfl ?_;dsimp only [aA,aB]
 refine aC (Lg p [c,1] D E S T K B h0 h1 hp (fun b hb=>by
  rcases List.mem_cons.1 hb with rfl | hb
  ·exact hc
  ·rw [List.mem_singleton] at hb;subst hb;exact Bd.one hT) (by simp) hpl hK hB hX) rfl ?_
 exact aL rfl
end Go.Sy
namespace Ord
theorem Bd.pow {D S:Nat} (h0:D≠0) {x:Rat} (h:Bd D S x):∀ n:Nat,Bd (D^n) (S^n) (x^n)
 | 0=>by rw [Nat.pow_zero,Nat.pow_zero,Rat.pow_zero];exact Bd.one (Nat.le_refl 1)
 | n+1=>by
   rw [Nat.pow_succ,Nat.pow_succ,Rat.pow_succ];exact Bd.mul (fun e=>h0 (Nat.pow_eq_zero.1 e).1) h0 (Bd.pow h0 h n) h
def bL (z:Int):Nat→Int
 | 0=>1
 | i+1=>bL z i*(z-i)
theorem lX {z:Int} {N:Nat}:∀ i:Nat,z.natAbs+i≤N→(bL z i).natAbs≤N^i
 | 0,_=>by simp [bL]
 | i+1,h=>by
   rw [bL,Int.natAbs_mul,Nat.pow_succ];exact Nat.mul_le_mul (lX i (by omega)) (by omega)
def inner (p a:List Rat) (m n i:Nat) (x:Rat):Nat→Rat
 | 0=>x
 | k+1=>if i<m+k then inner p a m n i x k-p.getD k 0*((bL ((n:Int)-((m:Int)+k-i)) i:Int):Rat)*a.getD (n-(m+k-i)) 0 else inner p a m n i x k
def outer (q:List (List Rat)) (a:List Rat) (m n:Nat):Nat→Rat
 | 0=>0
 | i+1=>inner (q.getD i []) a m n i (outer q a m n i) (min (q.getD i []).length (n-m+1))
def kA (q:List (List Rat)) (m:Nat) (lead:Rat) (y:List Rat) (n:Nat) (a:List Rat):Rat:=
 if n<m then y.getD n 0/((bL n n:Int):Rat) else outer q a m n q.length/(lead*((bL n m:Int):Rat))
def aR (q:List (List Rat)) (m:Nat) (lead:Rat) (y:List Rat):Nat→List Rat
 | 0=>[]
 | n+1=>aR q m lead y n ++ [kA q m lead y n (aR q m lead y n)]
theorem bQ (q:List (List Rat)) (m:Nat) (lead:Rat) (y:List Rat):∀ n,(aR q m lead y n).length=n
 | 0=>rfl
 | n+1=>by rw [aR,List.length_append,bQ q m lead y n];rfl
theorem oY (q:List (List Rat)) (m:Nat) (lead:Rat) (y:List Rat) {k n:Nat} (h:k≤n):(aR q m lead y n).take k=aR q m lead y k:=by
 induction n with
 | zero=>
   obtain rfl:k=0:=by omega
   rfl
 | succ n ih=>
   rcases Nat.lt_or_ge n k with h1 | h1
   ·obtain rfl:k=n+1:=by omega
    rw [List.take_of_length_le (by rw [bQ];omega)]
   ·rw [aR,List.take_append_of_le_length (by rw [bQ];exact h1),ih h1]
structure gP (B:Nat) (q:List (List Rat)) (m:Nat) (lead:Rat) (y:List Rat) (N:Nat):Prop where
 flead:Fit B lead
 fy:∀ x∈y,Fit B x
 fq:∀ p∈q,∀ x∈p,Fit B x
 ffall:∀ n i:Nat,n<N→i≤m→∀ z:Int,z.natAbs≤N→∀ j≤i,Fit B ((bL z j:Int):Rat)
 ffac:∀ n:Nat,n<m→∀ j≤n,Fit B ((bL n j:Int):Rat)
 fa:∀ n,n<N→Fit B (kA q m lead y n (aR q m lead y n))
 fx:∀ n i k,n<N→m≤n→i<q.length→k≤min (q.getD i []).length (n-m+1)→Fit B (inner (q.getD i []) (aR q m lead y n) m n i (outer q (aR q m lead y n) m n i) k)
end Ord
namespace Ord
theorem qV {z:Int}:∀ {i:Nat},(i:Int)≤z→bL z i≠0
 | 0,_=>by simp [bL]
 | i+1,h=>by
   rw [bL];exact Int.mul_ne_zero (qV (i:=i) (by omega)) (by omega)
end Ord
namespace Go.Sy
open Go Go.Proofs Tryz Ord
def ao0:Tr:=bR .lss 3 9 8 3 0 1 0 4 (.split (.u 7 0) (bR .sub 3 13 14 0 0 3 0 3 (aP 68 [(W 8 0)] [(some 3)] [15] [2] 39 true (aP 36 [(.agg [(U 4 0),(U 5 0),(U 6 0)]),(G3 9)] [(some 3)] [12,16] [39,39] 39 true (bB .add 3 9 1 3 0 3 (.back 0 [lV 11 0,lV 10 0,lV 10 1,lV 10 2]))))) (.ret [(.agg [(U 4 0),(U 5 0),(U 6 0)])]))
def ap5:Tr:=.need (.call 68 [(WK 1)] [(some 3)]) (.call ⟨.value (.func 68),#[(.const (I3 1))],#[2]⟩) 39 true (.loop 0 [lK 0,lV 2 0,lV 2 1,lV 2 2] ao0)
theorem LM:aN prog f209 (fun _=>none) [.v none, .v none]=ap5:=by kernel_rfl
def at1:Tr:=bB .rem 3 11 2 3 0 3 (bB .eql 3 12 1 11 0 4 (.split (.u 12 0) (aP 36 [(.agg [(U 7 0),(U 8 0),(U 9 0)]),(.agg [(U 4 0),(U 5 0),(U 6 0)])] [(some 3)] [14,15] [39,39] 39 true (aP 36 [(.agg [(U 4 0),(U 5 0),(U 6 0)]),(.agg [(U 4 0),(U 5 0),(U 6 0)])] [(some 3)] [17,18] [39,39] 39 true (bB .quo 3 9 2 3 0 3 (.back 0 [lV 15 0,lV 14 0,lV 14 1,lV 14 2,lV 13 0,lV 13 1,lV 13 2])))) (aP 36 [(.agg [(U 4 0),(U 5 0),(U 6 0)]),(.agg [(U 4 0),(U 5 0),(U 6 0)])] [(some 3)] [17,18] [39,39] 39 true (bB .quo 3 9 2 3 0 3 (.back 0 [lV 14 0,lV 13 0,lV 13 1,lV 13 2,lV 7 0,lV 8 0,lV 9 0])))))
def aA1:Tr:=.need (.call 68 [(WK 1)] [(some 3)]) (.call ⟨.value (.func 68),#[(.const (I3 1))],#[2]⟩) 39 true (.loop 0 [lV 1 0,lV 0 0,lV 0 1,lV 0 2,lV 2 0,lV 2 1,lV 2 2] (bB .gtr 3 7 0 3 0 4 (.split (.u 10 0) at1 (.ret [(.agg [(U 7 0),(U 8 0),(U 9 0)])]))))
theorem OD:aN prog f203 (fun _=>none) [.v (some 3), .v none]=aA1:=by kernel_rfl
def ap7:Tr:=aP 200 [(G3 0),(G3 1)] [(some 3),none] [8,9] [39,39] 90 false (.ret [(G3 2)])
theorem Wn:aN prog f207 (fun _=>none) [.v (some 3), .v (some 3)]=ap7:=by kernel_rfl
def ax8:Tr:=.split (.u 4 0) (gE 0 0 3 0 31 7 9 (eY 5 0 none 72 11 (aP 95 [(W 6 0)] [none] [14] [72] 3 true (.need (.prim [(W 2 0),(W 7 0)] none) (.call ⟨.builtin .max,#[(tT 13),(tT 15)],#[3,3]⟩) 3 false (bB .add 3 9 1 3 0 3 (.back 0 [lV 8 0,lV 9 0])))))) (bR .add 3 19 20 0 1 2 0 3 KP)
def aw1:Tr:=cY 0 0 7 31 (.loop 0 [lK 0,lK 0] (bR .lss 3 9 8 3 0 1 0 0 ax8))
theorem QG:aN prog f204 (fun _=>none) [.v (some 5)]=aw1:=by kernel_rfl
def az3:Tr:=gE 0 0 5 0 32 12 14 (eY 12 0 none 72 16 (aP 31 [(W 13 0),(G3 1)] [none] [20,21] [72,39] 72 true (.need (.lit 1 [[(.u 14 0)]]) (.buildSlice 31 1 #[(0,(tT 22))]) 31 false (.need (.app 1 24 (some 6) none (some 15)) (.call ⟨.builtin .append,#[(tT 19),(tT 23)],#[31,31]⟩) 31 false (bB .add 3 14 1 5 0 3 (.back 0 [lV 17 0, .row 16,lV 7 0,lV 8 0,lV 9 0,lV 10 0]))))))
def al1:Tr:=bR .lss 3 14 13 5 0 4 0 0 (.split (.u 11 0) az3 (.need (.idx 6 (.u 7 0)) (.indexAddr 31 (tT 28) (tT 30)) 0 false (.need (.ldrow 6 (.u 7 0) 0 1 false) (.load 72 (tT 31)) 72 false (.need (.prim [(W 12 0),(WK 0)] none) (.indexAddr 72 (tT 32) (.const (I3 0))) 0 false (eY 13 0 (some 3) 39 33 (.ret [(.agg [(.c (.sr 1 6)),(U 7 0),(U 14 0),(U 14 1),(U 14 2)])]))))))
def ao5:Tr:=cY 0 0 8 32 (bB .sub 3 9 1 2 0 3 (cY 0 0 12 32 (.loop 0 [lK 0, .nilrow,lV 3 0,lN,(.w (.one (.c (.k (.bool false))))),lN] al1)))
theorem aI9:aN prog f100 (fun _=>none) [.v none, .v (some 3)]=ao5:=by kernel_rfl
def ax7:Tr:=.need (.call 158 [(WK 1)] [(some 2)]) (.call ⟨.value (.func 158),#[(.const (I3 1))],#[2]⟩) 37 false (aP 256 [(W 0 0)] [(some 1)] [4] [3] 35 true (aP 115 [(G2 1),(G1 2)] [(some 3)] [3,5] [37,35] 39 true (.ret [(G3 3)])))
theorem QZ:aN prog f202 (fun _=>none) [.v none]=ax7:=by kernel_rfl
def ae8:Tr:=.need (.call 195 [(.one (.c (.k (.int .u64 2))))] [(some 1)]) (.call ⟨.value (.func 195),#[(.const (.int .u64 2))],#[254]⟩) 35 false (.need (.call 283 [(W 0 0),(WK 256)] [none]) (.call ⟨.value (.func 283),#[(tT 4),(.const (I3 256))],#[3,3]⟩) 3 true (aP 282 [(G1 1),(W 2 0)] [(some 1)] [3,5] [35,3] 35 true (.ret [(G1 3)])))
theorem ZN:aN prog f256 (fun _=>none) [.v none]=ae8:=by kernel_rfl
theorem intCast_mul (a b:Int):((a:Rat)*(b:Rat))=((a*b:Int):Rat):=(Rat.intCast_mul a b).symm
theorem lQ (z:Int) (i B:Nat) (hz1:-4611686018427387904≤z) (hz2:z<4611686018427387904) (hi:i<4611686018427387904) (hB:B≤17179869184) (h64:64≤B) (hf:∀ j,j≤i→Fit B ((bL z j:Int):Rat)):aK prog 209 [(.one (.int .i64 z):aG),(.one (.int .i64 i):aG)] (.ret [qT ((bL z i:Int):Rat)]):=by
 refine aD (args:=[.v none, .v none]) (ins:=[.v (.one (.int .i64 z)), .v (.one (.int .i64 i))]) (hints:=(fun _=>none)) fo (by kernel_rfl) func209 ⟨rfl,rfl,trivial⟩ ?_;rw [LM];dsimp only [List.map,In.env,aA,aB];refine aC (iV 1 (by omega) (by omega)) rfl ?_;dsimp only [aA,aB];refine bF {j:Nat // j≤i} (fun g=>(.one (.int .i64 g.1):aG)::(qC ((bL z g.1:Int):Rat)).map .one) (fun g=>i-g.1) ⟨0,Nat.zero_le _⟩ aO.rfl (fun _=>rfl) ?_;rintro ⟨j,hj⟩;dsimp only [aA,aB,List.map] at hj ⊢;refine vn bE rfl ?_;dsimp only [aA,aB];refine vs _ rfl (fun h3=>?_) (fun h3=>?_)
 ·refine vn (aJ (by omega) (by omega)) rfl ?_;dsimp only [aA,aB];refine aC (iV (z-j) (by omega) (by omega)) rfl ?_;dsimp only [aA,aB];refine aC (cP _ _ B 64 (hf j hj) (Fit.int (by omega) (by omega)) (by omega)) rfl ?_;rw [intCast_mul];dsimp only [aA,aB];refine vn (aE (by omega) (by omega)) rfl ?_;dsimp only [aA,aB];exact aU rfl ⟨⟨j+1,by omega⟩,aO.rfl,by show i-(j+1)<i-j;omega⟩
 rw [show i=j by omega];exact aL rfl
theorem Ky (x:Rat) (j:Nat):x^j*x^j=x^(2*j):=by rw [show 2*j=j+j by omega,mF]
theorem ap8 {n i j k:Nat} (h1:i+j*k=n) (hm:k%2=1):i+j+2*j*(k/2)=n:=by
 have h:k=2*(k/2)+1:=by omega
 generalize k/2=t at *;subst h;subst h1;grind
theorem XU {n i j k:Nat} (h1:i+j*k=n) (hm:k%2=0):i+2*j*(k/2)=n:=by
 have h:k=2*(k/2):=by omega
 generalize k/2=t at *;subst h;subst h1;grind
theorem iI (x:Rat) (n B:Nat) (hn:n<4611686018427387904) (hB:B≤17179869184) (hf:∀ j,j≤2*n+1→Fit B (x^j)):aK prog 203 [(qT x:aG),(.one (.int .i64 n):aG)] (.ret [qT (x^n)]):=by
 refine aD (args:=[.v (some 3), .v none]) (ins:=[.v (qT x), .v (.one (.int .i64 n))]) (hints:=(fun _=>none)) fo (by kernel_rfl) func203 ⟨rfl,rfl,trivial⟩ ?_;rw [OD];dsimp only [List.map,In.env,aA,aB];refine aC (iV 1 (by omega) (by omega)) rfl ?_;dsimp only [aA,aB]
 refine bF {g:Nat×Nat×Nat // g.2.1+g.2.2*g.1=n∧g.2.2≤2*n+1∧g.1≤n} (fun g=>(.one (.int .i64 g.1.1):aG)::((qC (x^g.1.2.2)).map .one++(qC (x^g.1.2.1)).map .one)) (fun g=>g.1.1) ⟨(n,0,1),by show 0+1*n=n;omega,by show 1≤_;omega,Nat.le_refl n⟩ (show aO _ _ by
  dsimp only;rw [Rat.pow_zero,show x^1=x by rw [Rat.pow_succ,Rat.pow_zero];grind];exact aO.rfl) (fun _=>rfl) ?_
 rintro ⟨⟨k,i,j⟩,h1,h2,hkn⟩;dsimp only [aA,aB,List.map] at h1 h2 hkn ⊢;refine vn eF rfl ?_;dsimp only [aA,aB];refine vs _ rfl (fun h3=>?_) (fun h3=>?_)
 ·have hk:0<k:=by omega
  have hjk:j≤j*k:=Nat.le_mul_of_pos_right _ hk
  have hj2:2*j≤2*n+1:=by
   generalize j*k=u at h1 hjk;omega
  refine vn (gK (by omega) (by omega)) rfl ?_;dsimp only [aA,aB];refine vn bW rfl ?_;dsimp only [aA,aB];refine vs _ rfl (fun h6=>?_) (fun h6=>?_)
  ·refine aC (cP _ _ B B (hf i (by omega)) (hf j (by omega)) (by omega)) rfl ?_;rw [←mF];dsimp only [aA,aB];refine aC (cP _ _ B B (hf j (by omega)) (hf j (by omega)) (by omega)) rfl ?_;rw [Ky];dsimp only [aA,aB];refine vn (iJ (by omega) (by omega) (by omega)) rfl ?_;dsimp only [aA,aB];have hm:k%2=1:=by omega
   exact aU rfl ⟨⟨(k/2,i+j,2*j),ap8 h1 hm,hj2,Nat.le_trans (Nat.div_le_self _ _) hkn⟩,aO.rfl,by show k/2<k;omega⟩
  refine aC (cP _ _ B B (hf j (by omega)) (hf j (by omega)) (by omega)) rfl ?_;rw [Ky];dsimp only [aA,aB];refine vn (iJ (by omega) (by omega) (by omega)) rfl ?_;dsimp only [aA,aB];have hm:k%2=0:=by omega
  exact aU rfl ⟨⟨(k/2,i,2*j),XU h1 hm,hj2,Nat.le_trans (Nat.div_le_self _ _) hkn⟩,aO.rfl,by show k/2<k;omega⟩
 have hk:k=0:=by omega
 subst hk;rw [show n=i by omega];exact aL rfl
theorem rH (a b:Rat) (A B:Nat) (hb0:b≠0) (ha:Fit A a) (hb:Fit B b) (h:A+B≤34359738368):aK prog 207 [(qT a:aG),(qT b:aG)] (.ret [qT (a/b)]):=by
 refine aD (args:=[.v (some 3), .v (some 3)]) (ins:=[.v (qT a), .v (qT b)]) (hints:=(fun _=>none)) fo (by kernel_rfl) func207 ⟨rfl,rfl,trivial⟩ ?_;rw [Wn];dsimp only [List.map,In.env,aA,aB];have hd:=Uk a b A B ha hb h;rw [if_neg hb0,if_neg hb0] at hd;refine aC hd rfl ?_;exact aL rfl
abbrev xY (q:List (List Rat)) (m:Nat) (lead:Rat):aG:=.agg ([eQ q, .int .i64 m]++qC lead)
def aV (q:List (List Rat)):Nat:=q.foldl (fun d p=>max d (cW zr p-1)) 0
theorem AM (q:List (List Rat)) (p:List Rat):aV (q ++ [p])=max (aV q) (cW zr p-1):=by simp [aV]
theorem qS {N:Nat}:∀ (q:List (List Rat)),(∀ p∈q,p.length≤N)→aV q≤N:=by
 have key:∀ (q:List (List Rat)) (d:Nat),d≤N→(∀ p∈q,p.length≤N)→q.foldl (fun d p=>max d (cW zr p-1)) d≤N:=by
  intro q
  induction q with
  | nil=>intro d h _;exact h
  | cons p q ih=>
    intro d h hp;have:=gL (z:=zr) p;have:=hp p List.mem_cons_self;exact ih _ (show max d (cW zr p-1)≤N by omega) fun r hr=>hp r (List.mem_cons_of_mem _ hr)
 exact fun q h=>key q 0 (Nat.zero_le _) h
theorem Jk (q:List (List Rat)) (m:Nat) (lead:Rat) (hq:∀ p∈q,p.length<1099511627776) (hql:q.length<1099511627776) (hm:m<1099511627776):aK prog 204 [(xY q m lead:aG)] (.ret [.one (.int .i64 ((m+aV q:Nat):Int))]):=by
 refine aD (args:=[.v (some 5)]) (ins:=[.v (xY q m lead)]) (hints:=(fun _=>none)) fo (by kernel_rfl) func204 ⟨rfl,trivial⟩ ?_;rw [QG];dsimp only [List.map,In.env,aA,aB];refine vn (aQ KI (List.length_map _)) rfl ?_;dsimp only [aA,aB];refine bF {i:Nat // i≤q.length} (fun g=>[.one (.int .i64 ((aV (q.take g.1):Nat):Int)), .one (.int .i64 g.1)]) (fun g=>q.length-g.1) ⟨0,Nat.zero_le _⟩ aO.rfl (fun _=>rfl) ?_;rintro ⟨i,hi⟩;dsimp only [aA,aB] at hi ⊢;have hd:=qS (N:=1099511627776) (q.take i) fun p hp=>Nat.le_of_lt (hq p (List.mem_of_mem_take hp));refine vn bE rfl ?_;dsimp only [aA,aB];refine vs _ rfl (fun h3=>?_) (fun h3=>?_)
 ·obtain ⟨p,hp⟩:∃ p,q[i]? = some p:=⟨_,List.getElem?_eq_getElem (by omega)⟩
  have hpl:=hq p (List.mem_of_getElem? hp);refine vn (aY KI (by omega) (by omega) hp) rfl ?_;dsimp only [aA,aB];refine vn (bH JX) rfl ?_;dsimp only [aA,aB];refine aC (An p hpl) rfl ?_;dsimp only [aA,aB];refine vn UB rfl ?_;dsimp only [aA,aB];refine vn (aE (by omega) (by omega)) rfl ?_;dsimp only [aA,aB]
  have e:max ((aV (q.take i):Nat):Int) ((cW zr p:Int)-1)=((aV (q.take (i+1)):Nat):Int):=by
   rw [List.take_add_one,hp,Option.toList_some,AM];omega
  exact aU rfl ⟨⟨i+1,by omega⟩,aO.of_eq (by rw [List.map_cons,List.map_cons,List.map_nil];dsimp only;rw [←e];rfl),by show q.length-(i+1)<q.length-i;omega⟩
 rw [show i=q.length by omega,List.take_length] at hd ⊢;refine vn (aE (by omega) (by omega)) rfl ?_;dsimp only [aA,aB];rw [show ((m+aV q:Nat):Int)=(m:Int)+(aV q:Int) by omega];exact aL rfl
theorem LH {α:Type} {l:List α} {i:Nat} {x:α} (h:l[i]? = some x):l.take i ++ [x]=l.take (i+1):=by
 rw [List.take_add_one,h];rfl
def aM (e:List (List Rat)) (c:Rat):Rat:=(dD (e.getD (e.length-1) []) c).getD 0 0
theorem aL0 (e:List (List Rat)) (c:Rat) (D E S T K B:Nat) (h0:D≠0) (h1:E≠0) (hp:∀ p∈e,(∀ a∈p,Bd D S a)∧p.length≤K) (hc:Bd E T c) (hT:1≤T) (hK:K≤1073741824) (hB:B≤8589934592) (hX:qL D E S T K<2^B) (he:0<e.length) (hel:e.length<1099511627776) (hne:dD (e.getD (e.length-1) []) c ≠ []):aK prog 100 [(.one (eQ e):aG),(qT c:aG)] (.ret [xY (e.map (dD · c)) (e.length-1) (aM e c)]):=by
 refine aD (args:=[.v none, .v (some 3)]) (ins:=[.v (.one (eQ e)), .v (qT c)]) (hints:=(fun _=>none)) fo (by kernel_rfl) func100 ⟨rfl,rfl,trivial⟩ ?_;rw [aI9];dsimp only [List.map,In.env,aA,aB];have e1:(e.length:Int)-1=((e.length-1:Nat):Int):=by omega
 refine vn (aQ Bw (List.length_map _)) rfl ?_;dsimp only [aA,aB];refine vn (aJ (by omega) (by omega)) rfl ?_;rw [e1];dsimp only [aA,aB];refine vn (aQ Bw (List.length_map _)) rfl ?_;dsimp only [aA,aB];refine bF {i:Nat // i≤e.length} (fun g=>[.one (.int .i64 g.1), .rows ((e.take g.1).map fun p=>cQ (dD p c)), .one (.int .i64 ((e.length-1:Nat):Int)), .one (.exact (.slice none 0 0)), .one (.bool false), .one (.exact (.slice none 0 0))]) (fun g=>e.length-g.1) ⟨0,Nat.zero_le _⟩ aO.rfl (fun _=>rfl) ?_;rintro ⟨i,hi⟩;dsimp only [aA,aB] at hi ⊢;refine vn bE rfl ?_;dsimp only [aA,aB];refine vs _ rfl (fun h5=>?_) (fun h5=>?_)
 ·obtain ⟨p,hpi⟩:∃ p,e[i]? = some p:=⟨_,List.getElem?_eq_getElem (by omega)⟩
  obtain ⟨hpb,hpk⟩:=hp p (List.mem_of_getElem? hpi);have hti:(e.take i).length≤i:=by rw [List.length_take];omega
  refine vn (aY Bw (by omega) (by omega) hpi) rfl ?_;dsimp only [aA,aB];refine vn (bH JX) rfl ?_;dsimp only [aA,aB];refine aC (QN p c D E S T K B h0 h1 hpb hc hT hpk hK hB hX) rfl ?_;dsimp only [aA,aB];refine dC (us:=[cQ (dD p c)]) rfl ?_;dsimp only [aA,aB];refine qI (xs:=e.take i) (x:=p) (f:=fun p=>cQ (dD p c)) rfl rfl (by omega) (by simp only [maxLen];omega) ?_;rw [LH hpi];dsimp only [aA,aB];refine vn (aE (by omega) (by omega)) rfl ?_;dsimp only [aA,aB];exact aU rfl ⟨⟨i+1,by omega⟩,aO.rfl,by show e.length-(i+1)<e.length-i;omega⟩
 have hie:i=e.length:=by omega
 subst hie;rw [List.take_length];obtain ⟨p,hpi⟩:∃ p,e[e.length-1]? = some p:=⟨_,List.getElem?_eq_getElem (by omega)⟩
 have hgd:e.getD (e.length-1) []=p:=by rw [List.getD_eq_getElem?_getD,hpi];rfl
 rw [hgd] at hne;have hlen:0<(dD p c).length:=List.length_pos_iff.2 hne;refine cV rfl rfl (by omega) (by first | omega | (rw [List.length_set];omega)) ?_;refine qQ rfl rfl (by omega) (Int.toNat_natCast _) hpi rfl ?_;dsimp only [aA,aB];refine vn (aY jF (by omega) rfl (cI (l:=dD p c) hlen)) rfl ?_;dsimp only [aA,aB];refine vn (bZ rZ (by decide) (by simp) (.inl rfl)) rfl ?_;dsimp only [aA,aB];rw [show aM e c=(dD p c).getD 0 0 by rw [aM,hgd],show (e.map fun p=>cQ (dD p c))=(e.map (dD · c)).map cQ by rw [List.map_map];rfl];exact aL rfl
theorem aI2 (k:Nat) (hk:k≤256):aK prog 256 [(.one (.int .i64 k):aG)] (.ret [mT (2^k)]):=by
 refine aD (args:=[.v none]) (ins:=[.v (.one (.int .i64 k))]) (hints:=(fun _=>none)) fo (by kernel_rfl) func256 ⟨rfl,trivial⟩ ?_;rw [ZN];dsimp only [List.map,In.env,aA,aB];refine aC (hU 2 (by omega)) rfl ?_;dsimp only [aA,aB];refine aC (IU k 256) rfl ?_;rw [show max (0:Int) (min (k:Int) 256)=(k:Int) by omega];dsimp only [aA,aB];refine aC (NB 2 k 2 (by omega) (by omega) (by omega) (by omega)) rfl ?_;exact aL rfl
theorem aA0 (k:Nat) (hk:k≤256):aK prog 202 [(.one (.int .i64 k):aG)] (.ret [qT (mkRat 1 (2^k))]):=by
 refine aD (args:=[.v none]) (ins:=[.v (.one (.int .i64 k))]) (hints:=(fun _=>none)) fo (by kernel_rfl) func202 ⟨rfl,trivial⟩ ?_;rw [QZ];dsimp only [List.map,In.env,aA,aB];refine aC (GF 1 (by omega) (by omega)) rfl ?_;dsimp only [aA,aB];refine aC (aI2 k hk) rfl ?_;dsimp only [aA,aB]
 refine aC (yL 1 (2^k) (Nat.pow_pos (by omega)) (by
  obtain ⟨H,hH⟩:∃ H,H=257:=⟨_,rfl⟩
  have h1:(dg (2^k)).length≤H:=fE (Nat.pow_lt_pow_right (by omega) (by omega));have h2:(dg (1:Int).natAbs).length=1:=by rw [show (1:Int).natAbs=1 from rfl,pP (by omega) (by omega)];rfl
  omega)) rfl ?_
 exact aL rfl
end Go.Sy
