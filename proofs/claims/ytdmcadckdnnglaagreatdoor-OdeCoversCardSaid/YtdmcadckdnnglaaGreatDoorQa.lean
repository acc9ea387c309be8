/- Part. -/
import Derived.Test.YtdmcadckdnnglaaGreatDoorOa
set_option linter.all false
set_option maxHeartbeats 1000000
namespace Ord
def ev(p:List Rat)(x:Rat):Rat:=p.foldr (fun a v=>v*x+a) 0
def cP(x:Rat):ev [] x=0:=rfl
def ai(a:Rat)(p:List Rat)(x:Rat):ev (a::p) x=ev p x*x+a:=rfl
def HM(p q:List Rat)(x:Rat):ev (p++q) x=ev p x+x^p.length*ev q x:=by
 induction p with
 | nil=>simp only[List.nil_append,cP,List.length_nil];grind
 | cons a p ih=>simp only[List.cons_append,ai,ih,List.length_cons,Rat.pow_succ];grind
def bd9(p:List Rat)(i:Nat)(a b x:Rat)(h:p[i]?=some a):ev (p.set i b) x=ev p x+(b-a)*x^i:=by
 induction p generalizing i with
 | nil=>simp at h
 | cons c p ih=>
   cases i with
   | zero=>
     simp only[List.getElem?_cons_zero,Option.some.injEq]at h;subst h;simp only[List.set_cons_zero,ai,Rat.pow_zero];grind
   | succ i=>
     simp only[List.getElem?_cons_succ]at h;simp only[List.set_cons_succ,ai,ih i h,Rat.pow_succ];grind
def PN(n:Nat)(x:Rat):ev (List.replicate n 0) x=0:=by
 induction n with
 | zero=>rfl
 | succ n ih=>rw[List.replicate_succ,ai,ih];grind
def jY{p:List Rat}{i:Nat}{a:Rat}(h:p[i]?=some a)(x:Rat):ev (p.take (i+1)) x=ev (p.take i) x+a*x^i:=by
 have hi:i<p.length:=(List.getElem?_eq_some_iff.1 h).1;rw[List.take_add_one,h,Option.toList_some,HM,List.length_take,Nat.min_eq_left O,ai,cP];grind
def RU(k:Rat)(p:List Rat)(x:Rat):ev (p.map (· * k)) x=ev p x*k:=by
 induction p with
 | nil=>rw[List.map_nil,cP];grind
 | cons a p ih=>rw[List.map_cons,ai,ai,ih];grind
def Wy(c:Rat):List Rat->List Rat
 | []=>[]
 | [_]=>[]
 | _::b::p=>ev (b::p) c::Wy c (b::p)
theorem DF(c:Rat):∀p:List Rat,(Wy c p).length=p.length-1
 | []=>rfl
 | [_]=>rfl
 | _::b::p=>by
   have:=DF c (b::p);simp only[List.length_cons]at this;simp only[Wy,List.length_cons,this];omega
theorem ac4(c x:Rat):∀p:List Rat,ev p x=ev p c+(x-c)*ev (Wy c p) x
 | []=>by simp only[cP,Wy];grind
 | [a]=>by simp only[ai,cP,Wy];grind
 | a::b::p=>by
   have ih:=ac4 c x (b::p);rw[ai a (b::p) x,ai a (b::p) c,Wy,ai (ev (b::p) c)];generalize ev (b::p) x=u at *;generalize ev (b::p) c=v at *;generalize ev (Wy c (b::p)) x=t at *;subst ih
   grind
theorem OJ(c:Rat):∀p:List Rat,ev p c=0->(∀a∈Wy c p,a=0)->∀a∈p,a=0
 | [],_,_=>by simp
 | [a],h,_=>by
   rw[ai,cP]at h;intro x hx;simp only[List.mem_singleton]at hx;subst hx;grind
 | a::b::p,h,hs=>by
   rw[Wy]at hs;have h1:ev (b::p) c=0:=hs _ List.mem_cons_self;have ih:=OJ c (b::p) h1 fun y hy=>hs y (List.mem_cons_of_mem _ hy);rw[ai,h1]at h;intro x hx;rcases List.mem_cons.1 hx with rfl | hx
   ·grind
   ·exact ih x hx
theorem IT:∀(n:Nat)(p:List Rat),p.length<=n->(∀i:Nat,i<n->ev p (i:Rat)=0)->∀a∈p,a=0
 | 0,p,hl,_=>by
   have:p=[]:=List.eq_nil_of_length_eq_zero O;subst this;simp
 | n+1,p,hl,h=>by
   have h0:=h n O;refine OJ _ p h0 (IT n (Wy (n:Rat) p) (by rw[DF];omega) fun i hi=>?_);have h1:=h i O;rw[ac4 (n:Rat) i p,h0]at h1
   have h2:((i:Rat)-(n:Rat))≠0:=by
    intro e;have e2:(i:Rat)=(n:Rat):=by grind
    have:=Rat.natCast_inj.1 e2;omega
   have h3:((i:Rat)-(n:Rat))*ev (Wy (n:Rat) p) i=0:=by grind
   rcases Rat.mul_eq_zero.1 h3 with h4 | h4
   ·exact(h2 h4).elim
   ·exact h4
def dif:List Rat->List Rat->List Rat
 | [],q=>q.map (fun a=>-a)
 | a::p,[]=>a::p
 | a::p,b::q=>(a-b)::dif p q
theorem ab6:∀(p q:List Rat)(x:Rat),ev (dif p q) x=ev p x-ev q x
 | [],q,x=>by
   rw[dif,cP]
   induction q with
   | nil=>rw[List.map_nil,cP];grind
   | cons b q ih=>rw[List.map_cons,ai,ai,ih];grind
 | a::p,[],x=>by rw[dif,cP];grind
 | a::p,b::q,x=>by rw[dif,ai,ai,ai,ab6 p q x];grind
def qy(p:List Rat):Prop:=∀a,p.getLast? = some a->a≠0
def qy.tail{a:Rat}{p:List Rat}(h:qy (a::p)):qy p:=fun b hb=>h b (by
 cases p with
 | nil=>cases hb
 | cons c p=>rw[List.getLast?_cons_cons];exact hb)
def FA{p:List Rat}(h:qy p)(h0:∀a∈p,a=0):p=[]:=by
 cases hp:p.getLast? with
 | none=>exact List.getLast?_eq_none_iff.1 hp
 | some a=>exact(h a hp (h0 a (List.mem_of_getLast? hp))).elim
theorem Nr:∀{p q:List Rat},qy p->qy q->(∀a∈dif p q,a=0)->p=q
 | [],q,_,hq,h=>by
   rw[dif]at h;refine(FA hq fun a ha=>?_).symm;have:=h (-a) (List.mem_map.2 ⟨a,ha,rfl⟩)
   grind
 | a::p,[],hp,_,h=>FA hp h
 | a::p,b::q,hp,hq,h=>by
   rw[dif]at h;have h1:=h _ List.mem_cons_self;have h2:=Nr hp.tail hq.tail fun x hx=>h x (List.mem_cons_of_mem _ hx);rw[h2,show a=b by grind]
def ag4{p q:List Rat}(hp:qy p)(hq:qy q)(h:∀x,ev p x=ev q x):p=q:=
 Nr hp hq (IT _ _ (Nat.le_refl _) fun i _=>by rw[ab6,h];grind)
end Ord
namespace Ord
def Bd(D S:Nat)(q:Rat):Prop:=q.den∣D/\q.num.natAbs<=S*q.den
def Bd.zero{D S:Nat}:Bd D S 0:=⟨⟨D,by simp⟩,by simp⟩
def Bd.one{D S:Nat}(h:1<=S):Bd D S 1:=⟨⟨D,by simp⟩,by simpa using h⟩
def Bd.int{D S:Nat}{n:Int}(h:n.natAbs<=S):Bd D S (n:Rat):=⟨⟨D,by simp⟩,by simpa using h⟩
def Bd.mono{D S E T:Nat}{q:Rat}(h:Bd D S q)(hD:D∣E)(hS:S<=T):Bd E T q:=
 ⟨Nat.dvd_trans h.1 hD,Nat.le_trans h.2 (Nat.mul_le_mul_right _ hS)⟩
def Bd.le{D S T:Nat}{q:Rat}(h:Bd D S q)(hS:S<=T):Bd D T q:=h.mono (Nat.dvd_refl _) hS
def Bd.neg{D S:Nat}{q:Rat}(h:Bd D S q):Bd D S (-q):=⟨h.1,by show(-q.num).natAbs<=S*q.den;rw[Int.natAbs_neg];exact h.2⟩
def Bd.mk{D S:Nat}{n:Int}(h0:D≠0)(h:n.natAbs<=S*D):Bd D S (mkRat n D):=by
 rw[<-Rat.normalize_eq_mkRat h0,Rat.normalize_eq h0];show D/n.natAbs.gcd D∣D/\(n/((n.natAbs.gcd D:Nat):Int)).natAbs<=S*(D/n.natAbs.gcd D);have hg:0<n.natAbs.gcd D:=Nat.gcd_pos_of_pos_right _ O;have hd:=Nat.gcd_dvd_right n.natAbs D;have hn:=Nat.gcd_dvd_left n.natAbs D;generalize n.natAbs.gcd D=g at *;obtain⟨d',rfl⟩:=hd;obtain⟨k,hk⟩:=Int.ofNat_dvd_left.2 hn;subst hk
 constructor
 ·rw[Nat.mul_div_cancel_left _ hg];exact Nat.dvd_mul_left _ _
 ·rw[Nat.mul_div_cancel_left _ hg,Int.mul_ediv_cancel_left _ O];rw[Int.natAbs_mul,Int.natAbs_natCast,Nat.mul_left_comm]at h;exact Nat.le_of_mul_le_mul_left h hg
def Bd.ex{D S:Nat}{q:Rat}(h:Bd D S q)(h0:D≠0):∃n:Int,q=mkRat n D/\n.natAbs<=S*D:=by
 obtain⟨⟨k,rfl⟩,h2⟩:=h;have hk:k≠0:=fun e=>h0 (by rw[e,Nat.mul_zero]);refine⟨q.num*k,?_,?_⟩
 ·rw[Nat.mul_comm q.den k,Int.mul_comm,Rat.mkRat_mul_left hk,Rat.mkRat_self]
 ·rw[Int.natAbs_mul,Int.natAbs_natCast,<-Nat.mul_assoc];exact Nat.mul_le_mul_right _ h2
def Bd.add{D S T:Nat}{a b:Rat}(h0:D≠0)(ha:Bd D S a)(hb:Bd D T b):Bd D (S+T) (a+b):=by
 obtain⟨m,rfl,hm⟩:=ha.ex h0;obtain⟨n,rfl,hn⟩:=hb.ex h0
 have e:mkRat m D+mkRat n D=mkRat (m+n) D:=by
  rw[Rat.mkRat_add_mkRat m n h0 h0,<-Int.add_mul,Rat.mkRat_mul_right h0]
 rw[e];refine Bd.mk h0 (Nat.le_trans (Int.natAbs_add_le _ _) ?_);rw[Nat.add_mul];exact Nat.add_le_add hm hn
def Bd.sub{D S T:Nat}{a b:Rat}(h0:D≠0)(ha:Bd D S a)(hb:Bd D T b):Bd D (S+T) (a-b):=by
 rw[Rat.sub_eq_add_neg];exact ha.add h0 hb.neg
def Bd.mul{D E S T:Nat}{a b:Rat}(h0:D≠0)(h1:E≠0)(ha:Bd D S a)(hb:Bd E T b):Bd (D*E) (S*T) (a*b):=by
 obtain⟨m,rfl,hm⟩:=ha.ex h0;obtain⟨n,rfl,hn⟩:=hb.ex h1;rw[Rat.mkRat_mul_mkRat];refine Bd.mk (Nat.mul_ne_zero h0 h1) ?_;rw[Int.natAbs_mul];have:=Nat.mul_le_mul hm hn;rw[Nat.mul_mul_mul_comm]at this;exact this
def Bd.fit{D S B:Nat}{q:Rat}(h:Bd D S q)(h0:D≠0)(h1:D<2^B)(h2:S*D<2^B):Fit B q:=by
 have hd:=Nat.le_of_dvd O h.1;exact⟨Nat.lt_of_le_of_lt (Nat.le_trans h.2 (Nat.mul_le_mul_left _ hd)) h2,Nat.lt_of_le_of_lt hd h1⟩
end Ord
namespace Ord
def gi(a:Rat)(q:List Rat)(i:Nat)(out:List Rat):Nat->List Rat
 | 0=>out
 | k+1=>(gi a q i out k).set (i+k) ((gi a q i out k).getD (i+k) 0+a*q.getD k 0)
def mulL(p q:List Rat):Nat->List Rat
 | 0=>List.replicate (p.length+q.length-1) 0
 | i+1=>if p.getD i 0=0 then mulL p q i else gi (p.getD i 0) q i (mulL p q i) q.length
theorem kX(a:Rat)(q:List Rat)(i:Nat)(out:List Rat):∀k,(gi a q i out k).length=out.length
 | 0=>rfl
 | k+1=>by rw[gi,List.length_set,kX a q i out k]
theorem jG(p q:List Rat):∀i,(mulL p q i).length=p.length+q.length-1
 | 0=>by rw[mulL,List.length_replicate]
 | i+1=>by
   rw[mulL];split
   ·exact jG p q i
   ·rw[kX,jG p q i]
def bX{l:List Rat}{i:Nat}(h:i<l.length:=by omega):l[i]?=some (l.getD i 0):=by
 rw[List.getD_eq_getElem?_getD,List.getElem?_eq_getElem h];rfl
theorem mi(x:Rat)(i:Nat):∀k:Nat,x^(i+k)=x^i*x^k
 | 0=>by rw[Nat.add_zero,Rat.pow_zero];grind
 | k+1=>by rw[<-Nat.add_assoc,Rat.pow_succ,mi x i k,Rat.pow_succ];grind
theorem HU(a:Rat)(q:List Rat)(i:Nat)(out:List Rat)(x:Rat)(hl:i+q.length<=out.length):∀k,k<=q.length->ev (gi a q i out k) x=ev out x+a*x^i*ev (q.take k) x
 | 0,_=>by rw[gi,List.take_zero,cP];grind
 | k+1,hk=>by
   have hget:=bX (l:=gi a q i out k) (i:=i+k) (by rw[kX];omega);rw[gi,bd9 _ _ _ _ x hget,HU a q i out x hl k O,jY (bX (l:=q)) x,mi]
   grind
theorem Tj(p q:List Rat)(x:Rat)(hq:0<q.length):∀i,i<=p.length->ev (mulL p q i) x=ev (p.take i) x*ev q x
 | 0,_=>by rw[mulL,PN,List.take_zero,cP];grind
 | i+1,hi=>by
   have ih:=Tj p q x hq i O;rw[mulL,jY (bX (l:=p)) x];split
   ·rename_i h0;rw[ih,h0];grind
   ·rw[HU _ _ _ _ x (by rw[jG];omega) _ (Nat.le_refl _),ih,List.take_length];grind
def ij{D S:Nat}{l:List Rat}(h:∀a∈l,Bd D S a)(i:Nat):Bd D S (l.getD i 0):=by
 rw[List.getD_eq_getElem?_getD];cases hi:l[i]? with
 | none=>exact Bd.zero
 | some a=>exact h a (List.mem_of_getElem? hi)
def bJ0(D S T:Nat)(i k:Nat)(l:List Rat):Prop:=∀j a,l[j]?=some a->Bd D (if i<=j/\j<i+k then S+T else S) a
theorem Je{D E S T U:Nat}(h0:D≠0)(h1:E≠0){a:Rat}{q:List Rat}(ha:Bd D S a)(hq:∀b∈q,Bd E T b){i:Nat}{out:List Rat}(ho:∀x∈out,Bd (D*E) U x):∀k,bJ0 (D*E) U (S*T) i k (gi a q i out k)
 | 0=>fun j x hx=>by
   rw[if_neg O];exact ho x (List.mem_of_getElem? hx)
 | k+1=>fun j x hx=>by
   have ih:=Je h0 h1 ha hq ho k (i:=i);rw[gi,List.getElem?_set]at hx;split at hx
   ·rename_i e;subst e;split at hx
    ·rename_i hlt;simp only[Option.some.injEq]at hx;subst hx;rw[if_pos O];refine Bd.add (Nat.mul_ne_zero h0 h1) ?_ (ha.mul h0 h1 (ij hq k));have:=ih (i+k) _ (bX hlt);rw[if_neg O]at this;exact this
    ·cases hx
   ·have:=ih j x hx;refine this.le ?_;by_cases h2:i<=j/\j<i+k
    ·rw[if_pos h2,if_pos O];exact Nat.le_refl _
    ·rw[if_neg h2];split
     ·exact Nat.le_add_right _ _
     ·exact Nat.le_refl _
def Ej{D E S T U:Nat}(h0:D≠0)(h1:E≠0){a:Rat}{q:List Rat}(ha:Bd D S a)(hq:∀b∈q,Bd E T b){i:Nat}{out:List Rat}(ho:∀x∈out,Bd (D*E) U x)(k:Nat):∀x∈gi a q i out k,Bd (D*E) (U+S*T) x:=fun x hx=>by
 obtain⟨j,hj⟩:=List.mem_iff_getElem?.1 hx;refine(Je h0 h1 ha hq ho k j x hj).le ?_;split
 ·exact Nat.le_refl _
 ·exact Nat.le_add_right _ _
theorem BN{D E S T:Nat}(h0:D≠0)(h1:E≠0){p q:List Rat}(hp:∀a∈p,Bd D S a)(hq:∀b∈q,Bd E T b):∀i,∀x∈mulL p q i,Bd (D*E) (i*(S*T)) x
 | 0=>fun x hx=>by
   rw[mulL]at hx;obtain⟨_,rfl⟩:=List.mem_replicate.1 hx;exact Bd.zero
 | i+1=>fun x hx=>by
   rw[mulL]at hx;rw[Nat.add_mul,Nat.one_mul];split at hx
   ·exact(BN h0 h1 hp hq i x hx).le (Nat.le_add_right _ _)
   ·exact Ej h0 h1 (ij hp i) hq (BN h0 h1 hp hq i) _ x hx
def NI{D E S T B n:Nat}(h0:D≠0)(h1:E≠0)(hX:D*E*((n+1)*((S+1)*(T+1)))<2^B) :
  (∀a,Bd D S a->Fit B a)/\(∀b,Bd E T b->Fit B b)/\(∀c(i:Nat),i<n->Bd (D*E) (i*(S*T)+S*T) c->Fit B c)/\(∀c,Bd (D*E) (S*T) c->Fit B c):=by
 have hD:0<D:=Nat.pos_of_ne_zero h0;have hE:0<E:=Nat.pos_of_ne_zero h1;have hDE:0<D*E:=Nat.mul_pos hD hE
 have key:∀X,X<=(n+1)*((S+1)*(T+1))->X*(D*E)<2^B:=fun X h=>by
  refine Nat.lt_of_le_of_lt ?_ hX;rw[Nat.mul_comm];exact Nat.mul_le_mul_left _ h
 have hST:(S+1)*(T+1)=S*T+S+T+1:=by rw[Nat.add_mul,Nat.mul_add];omega
 have hge:(S+1)*(T+1)<=(n+1)*((S+1)*(T+1)):=Nat.le_mul_of_pos_left _ O;have k1:=key 1 O;have kS:=key S O;have kT:=key T O;have kST:=key (S*T) O;have hDle:D<=D*E:=Nat.le_mul_of_pos_right _ hE;have hEle:E<=D*E:=Nat.le_mul_of_pos_left _ hD;refine⟨fun a ha=>ha.fit h0 O (Nat.lt_of_le_of_lt (Nat.mul_le_mul_left _ hDle) kS),fun b hb=>hb.fit h1 O (Nat.lt_of_le_of_lt (Nat.mul_le_mul_left _ hEle) kT),fun c i hi hc=>?_,fun c hc=>hc.fit O O kST⟩;refine hc.fit O O (key _ ?_);have e:i*(S*T)+S*T=(i+1)*(S*T):=by rw[Nat.add_mul,Nat.one_mul]
 rw[e];exact Nat.mul_le_mul O O
end Ord
namespace Go.Sy
open Go Go.Proofs Tryz Ord
def aU6:Tr:=cU 4 3 0 3 11 10 0 (aH 6 0 (.need (.callv (.u 1 0) [(W 4 0)] [(some 3)]) (.call ⟨.value (tT 16),#[(tT 17)],#[3]⟩) 39 true (dL 5 4 72 14 15 (Io 5 4 7 19 18 (bD 4 1 3 11 (jV 0 9 8))))) (kB 34 3 5 21 72 72 (bI 7)))
def bo7:Tr:=SH 0 72 7 (uk 2 9 72 (LM 0 2 aU6))
def at6:aM prog f107 bZ [.v none,.v none]=bo7:=by kernel_rfl
def aj7:Tr:=fW 5 5 1 5 2
def bf8:Tr:=au 0 0 6 72 (cU 1 2 0 3 5 7 4 (aH 3 0 (gb 0 0 1 0 72 9 10 (dB 4 3 39 11 aj7)) (.ret [(.agg [tN,(tE (.bool false)),tN])])))
def bB1:aM prog f109 bZ [.v none,.v none]=bf8:=by kernel_rfl
def bh9:Tr:=HN 109 1 0 3 5 6 72 3 39 (Il 109 2 0 0 3 8 9 72 3 39 (iQ 64 3 0 3 1 3 2 4 0 4 1 4 2 7 10 aj7))
def ag9:aM prog f108 bZ [.v none,.ref 1,.ref 1]=bh9:=by kernel_rfl
def PE:Tr:=bI 5
def aR9:Tr:=au 0 0 5 72 (au 1 0 7 72 (Yl 3 6 8 (dV 107 [(W 4 0),(.one (.jO 108 [(.ref 0 [(.u 0 0)]),(.ref 0 [(.u 1 0)])]))] [none] [9,10] [3,177] 72 true PE)))
def ba2:aM prog f30 bZ [.v none,.v none]=aR9:=by kernel_rfl
def ac6:Tr:=hx306Q 
def av1:Tr:=Kd 21 26 3 39 50 (iQ 36 16 0 16 1 16 2 24 0 24 1 24 2 52 53 (iQ 64 27 0 27 1 27 2 28 0 28 1 28 2 51 54 (dL 21 25 72 42 45 (Io 21 25 29 56 55 (bD 20 1 3 37 (jV 1 31 30))))))
def aA3:Tr:=cU 20 19 0 3 37 36 0 (aH 22 0 (gb 1 0 20 0 72 35 37 (dB 23 3 39 40 (fG 12 0 20 0 3 43 44 (fG 12 0 20 0 3 47 48 (dL 21 26 72 46 49 av1))))) (bD 12 1 3 27 (jV 0 23 21)))
def aI5:Tr:=gb 0 0 12 0 72 25 27 (dB 15 3 39 30 (DH 35 16 32 39 3 (eH 17 0 0 3 33 (aH 18 0 (bD 12 1 3 27 (jV 0 19 13)) (au 1 0 35 72 (LM 1 13 aA3))))))
def ax8:Tr:=SH 9 72 23 (au 0 0 25 72 (LM 0 10 (cU 12 11 0 3 27 26 0 (aH 14 0 aI5 (kB 34 3 13 59 72 72 (bI 15))))))
def bt0:Tr:=au 1 0 14 72 (eH 4 0 0 3 15 (aH 5 0 ac6 (au 0 0 18 72 (au 1 0 20 72 (fG 6 0 7 0 3 19 21 (fP 8 1 22 ax8))))))
def aQ8:Tr:=au 0 0 10 72 (eH 2 0 0 3 11 (aH 3 0 ac6 bt0))
def aQ6:aM prog f32 bZ [.v none,.v none]=aQ8:=by kernel_rfl
def bp5:Tr:=lX 68 1 3 2 39 (ID 0 0 1 2 1 72 3 4 (uw 3 2))
def aE9:aM prog f111 bZ [.v (some 3)]=bp5:=by kernel_rfl
def ZB:Tr:=bI 2
def bq6:Tr:=KC 0 72 3 (kB 34 3 1 4 72 72 ZB)
def Ml:aM prog f190 bZ [.v (some 3)]=bq6:=by kernel_rfl
def VT(n:Nat):ae (ae aE.Sub) (List.replicate n [.exact (.slice none 0 0),.bool false,.exact (.slice none 0 0)]) (rQ (List.replicate n 0)):=by
 induction n with
 | zero=>trivial
 | succ n ih=>rw[List.replicate_succ,List.replicate_succ];exact⟨db,ih⟩
def ZE(n:Nat):aG.Sub (.rows (List.replicate n [.exact (.slice none 0 0),.bool false,.exact (.slice none 0 0)])) (.rows (rQ (List.replicate n 0))):=VT n
def part(f:Nat->Rat)(n i:Nat):List Rat:=(List.range i).map f++List.replicate (n-i) 0
def Ow{f:Nat->Rat}{n i:Nat}(h:i<=n):(part f n i).length=n:=by simp[part];omega
def NG{f:Nat->Rat}{n i:Nat}(h:i<n):(part f n i).set i (f i)=part f n (i+1):=by
 rw[part,part,mM,eG,List.set_append_right _ _ (by simp)];rw[show n-i=(n-(i+1))+1 by omega,List.replicate_succ];simp
def aH3(n:Nat)(g:Nat)(caps:List aE)(f:Nat->Rat)(hf:∀i,i<n->aL prog g (.one (.int .i64 (i:Int))::caps.map .one) (.ret [qT (f i)]))(hn:n<1099511627776):aL prog 107 [(.one (.int .i64 n):aG),(.one (.jO g caps):aG)] (.ret [.one (sQ (trim ((List.range n).map f)))]):=by
 refine bw func107 at6 ?_;refine sJ (n:=n) (m:=n) rfl rfl rfl (aY _) O (by simp only[maxLen];omega) ?_;refine Qk rfl (my) ?_;refine ao {i:Nat // i<=n} (fun g=>[.one (.int .i64 g.1),.rows (rQ (part f n g.1))]) (fun g=>n-g.1) ⟨0,bO _⟩ ⟨aG.Sub.same,ZE n,trivial⟩ (fun _=>rfl) ?_;rintro⟨i,hi⟩;dsimp only[aO,aP]at hi|-;have hpl:=Ow (f:=f) hi;apply vn ak;refine vs _ rfl ?_ ?_<;>intro h4
 ·apply sO (f:=g) (caps:=caps) rfl (hf i O) rfl;refine cy rfl rfl O (by first | omega | (rw[List.length_set];omega)) ?_;obtain⟨q,hq⟩:∃q,(part f n i)[i]?=some q:=⟨_,ay O⟩
  refine mY (f:=qC) (d':=f i) rfl rfl O (cS i) hq rfl ?_;rw[NG O];apply vn aC;dsimp only[aO,aP];exact aW rfl ⟨⟨i+1,O⟩,aQ.rfl,by show n-(i+1)<n-i;omega⟩
 have hin:i=n:=O
 subst hin;rw[show part f i i=(List.range i).map f by simp[part]];apply aA (xn ((List.range i).map f) (by rw[aR,mA];omega)) rfl;exact aK
def aN3(p:List Rat)(i:Nat)(hi:i<4611686018427387904):aL prog 109 [(.one (sQ p):aG),(.one (.int .i64 i):aG)] (.ret [qT (p.getD i 0)]):=by
 refine bw func109 bB1 ?_;apply vn (aU jq (aR _));apply vn ak;refine vs _ rfl ?_ ?_<;>intro h2
 ·have hlt:i<p.length:=O
  apply vn (aZ jq (bX hlt) (cS i));apply vn (bB ov (by decide) (by simp) (.inl rfl));exact aK
 rw[show p.getD i 0=0 by rw[cu,fD O];rfl];exact dJ ⟨db,trivial⟩
def mg{A:Nat}{l:List Rat}(h:∀a∈l,Fit A a)(i:Nat)(hA:1<=A:=by omega):Fit A (l.getD i 0):=by
 rw[cu];cases hi:l[i]? with
 | none=>exact Fit.zero hA
 | some a=>exact h a (bc hi)
def aa8(p q:List Rat)(i A B:Nat)(hA:1<=A)(hB:1<=B)(hp:∀a∈p,Fit A a)(hq:∀b∈q,Fit B b)(h:A+B<=34359738368)(hi:i<4611686018427387904:=by omega):aL prog 108 [(.one (.int .i64 i):aG),(.one (.aj ([sQ p])):aG),(.one (.aj ([sQ q])):aG)] (.ret [qT (p.getD i 0+q.getD i 0)]):=by
 refine dvr (ins:=[.v (.one (.int .i64 i)),.ref ([sQ p]),.ref ([sQ q])]) func108 ag9 ?_;apply aA (aN3 p i hi);apply aA (aN3 q i hi);apply aA (iU _ _ A B (mg hp i hA) (mg hq i hB) h);exact aK
def Kt(p q:List Rat):List Rat:=trim ((List.range (max p.length q.length)).map fun i=>p.getD i 0+q.getD i 0)
def bf0(p q:List Rat)(A B:Nat)(hA:1<=A)(hB:1<=B)(hp:∀a∈p,Fit A a)(hq:∀b∈q,Fit B b)(hpl:p.length<1099511627776)(hql:q.length<1099511627776)(h:A+B<=34359738368:=by omega):aL prog 30 [(.one (sQ p):aG),(.one (sQ q):aG)] (.ret [.one (sQ (Kt p q))]):=by
 refine bw func30 ba2 ?_;apply vn (aU jq (aR _));apply vn (aU jq (aR _));apply vn (ai2 (k:=.i64) (a:=(p.length:Int)) (b:=(q.length:Int)));rw[show max (p.length:Int) (q.length:Int)=((max p.length q.length:Nat):Int) by omega];apply aA (aH3 (max p.length q.length) 108 [.aj [sQ p],.aj [sQ q]] (fun i=>p.getD i 0+q.getD i 0) (fun i hi=>aa8 p q i A B hA hB hp hq h) O);exact aK
def uH(p q:List Rat):List Rat:=if p=[]\/q=[]then[]else trim (mulL p q p.length)
def bi9(p q:List Rat)(D E S T B:Nat)(h0:D≠0)(h1:E≠0)(hp:∀a∈p,Bd D S a)(hq:∀b∈q,Bd E T b)(hB:B<=8589934592)(hX:D*E*((p.length+1)*((S+1)*(T+1)))<2^B)(hpl:p.length<=549755813888:=by omega)(hql:q.length<=549755813888:=by omega):aL prog 32 [(.one (sQ p):aG),(.one (sQ q):aG)] (.ret [.one (sQ (uH p q))]):=by
 refine bw func32 aQ6 ?_;obtain⟨f1,f2,f3,f4⟩:=NI h0 h1 hX;apply vn (aU jq (aR _));apply vn bK;refine vs _ rfl ?_ ?_<;>intro h2
 ·have hp0:p=[]:=fu O;rw[uH,if_pos (.inl hp0)];exact dJ ⟨aE.Sub.nil,trivial⟩
 apply vn (aU jq (aR _));apply vn bK;refine vs _ rfl ?_ ?_<;>intro h6
 ·have hq0:q=[]:=fu O;rw[uH,if_pos (.inr hq0)];exact dJ ⟨aE.Sub.nil,trivial⟩
 have hp0:0<p.length:=O
 have hq0:0<q.length:=O
 rw[uH,if_neg (by rintro(h | h)
                  ·rw[h]at hp0;simp at hp0
                  ·rw[h]at hq0;simp at hq0)]
 obtain⟨n,hn⟩:∃n:Nat,(p.length:Int)+(q.length:Int)-1=(n:Int):=⟨p.length+q.length-1,O⟩
 have hn':p.length+q.length-1=n:=O
 apply vn (aU jq (aR _));apply vn (aU jq (aR _));apply vn aC;apply vn aJ;rw[hn];dsimp only[aO,aP];refine sJ (n:=n) (m:=n) rfl rfl rfl (aY _) O (by simp only[maxLen];omega) ?_;apply vn (aU jq (aR _));dsimp only[aO,aP];refine ao {i:Nat // i<=p.length} (fun g=>[.one (.int .i64 g.1),.rows (rQ (mulL p q g.1))]) (fun g=>p.length-g.1) ⟨0,bO _⟩ ⟨aG.Sub.same,by show aG.Sub _ (.rows (rQ (mulL p q 0)));rw[mulL,hn'];exact ZE n,trivial⟩ (fun _=>rfl) ?_;rintro⟨i,hi⟩;dsimp only[aO,aP]at hi|-;apply vn ak;refine vs _ rfl ?_ ?_<;>intro h16
 ·apply vn (aZ jq (bX (show i<p.length by omega)) (cS i));apply vn (bB ov (by decide) (by simp) (.inl rfl));apply aA (oN _);apply vn bK;refine vs _ rfl ?_ ?_<;>intro h21
  ·have hz:p.getD i 0=0:=sign_zero.1 h21;apply vn aC;dsimp only[aO,aP];exact aW rfl ⟨⟨i+1,O⟩,(by dsimp only;rw[mulL,if_pos hz];exact aQ.rfl),by show p.length-(i+1)<p.length-i;omega⟩
  have hz:¬p.getD i 0=0:=fun h=>h21 (sign_zero.2 h);have ho:=BN h0 h1 hp hq i;have hi2:i<p.length:=O
  apply vn (aU jq (aR _));refine ao {k:Nat // k<=q.length} (fun g=>[.one (.int .i64 g.1),.rows (rQ (gi (p.getD i 0) q i (mulL p q i) g.1))]) (fun g=>q.length-g.1) ⟨0,bO _⟩ aQ.rfl (fun _=>rfl) ?_;rintro⟨k,hk⟩;dsimp only[aO,aP]at hk|-;apply vn ak;refine vs _ rfl ?_ ?_<;>intro h27
  ·have hk2:k<q.length:=O
   have hrow:=Ej h0 h1 (ij hp i) hq ho k (i:=i);have hrl:(gi (p.getD i 0) q i (mulL p q i) k).length=n:=by rw[kX,jG,hn']
   have hget:=bX (l:=gi (p.getD i 0) q i (mulL p q i) k) (i:=i+k);have hfo:Fit B ((gi (p.getD i 0) q i (mulL p q i) k).getD (i+k) 0):=f3 _ i hi2 (hrow _ (bc hget));apply vn (aZ jq (bX hk2) (cS k));apply vn (bB ov (by decide) (by simp) (.inl rfl));apply vn aC;apply vn aC;refine cy rfl rfl O O ?_;refine Wj rfl rfl O (show((i:Int)+(k:Int)).toNat=i+k by omega) hget (.inl rfl) rfl ?_;dsimp only[aO,aP,Mf,List.drop,List.take];apply aA (bg _ _ B B (f1 _ (ij hp i)) (f2 _ (ij hq k)));apply aA (iU _ _ B B hfo (f4 _ ((ij hp i).mul h0 h1 (ij hq k))));refine cy rfl rfl O O ?_;refine mY (f:=qC) (d':=(gi (p.getD i 0) q i (mulL p q i) k).getD (i+k) 0+p.getD i 0*q.getD k 0) rfl rfl O (show((i:Int)+(k:Int)).toNat=i+k by omega) hget rfl ?_;apply vn aC;dsimp only[aO,aP];exact aW rfl ⟨⟨k+1,O⟩,aQ.rfl,by show q.length-(k+1)<q.length-k;omega⟩
  apply vn aC
  exact aW rfl ⟨⟨i+1,O⟩,(by
   dsimp only;rw[mulL,if_neg hz,show q.length=k by omega];exact aQ.rfl),by show p.length-(i+1)<p.length-i;omega⟩
 rw[show p.length=i by omega];apply aA (xn _ (by rw[jG];omega)) rfl;exact aK
def aI6(c:Rat):aL prog 111 [(qT c:aG)] (.ret [.one (sQ [c,1])]):=by
 refine bw func111 aE9 ?_;apply aA (mN 1);apply bF rfl;exact aK
def Nq(c:Rat):aL prog 190 [(qT c:aG)] (.ret [.one (sQ (trim [c]))]):=by
 refine bw func190 Ml ?_;apply bF rfl;apply aA (xn [c] (by simp));exact aK
open Go Go.Proofs Go.RowKit Go.Shelf Tryz Ord
attribute [local go_sem] Oper.semAt_some
section
variable(M:Nat->Prop)(w:World)(Pq:Rat->Prop)
structure PV where
 q:Rat
 u0:Value
 u1:Value
 u2:Value
 ok:Pq q
 rep:ab M w (qC q) [u0,u1,u2]
end
def aW5{M:Nat->Prop}{w:World}{Pq:Rat->Prop}{v:Value}{ps:List Rat}(h:(sQ ps).rep M w v)(hp:∀q∈ps,Pq q) :
  ∃(ts:List (PV M w Pq))(a:Option Addr)(cap:Nat),v=.slice a ts.length cap/\ts.map PV.q=ps/\Sl3 PV.u0 PV.u1 PV.u2 w.heap.size w v ts:=by
 obtain⟨a,cap,rfl,hc,hm,hel⟩:=h;have hlen:(rQ ps).length=ps.length:=aR _;rcases hel with h | ⟨b,off,cs,T,fz,rfl,hb,hh,hr⟩
 ·have:ps=[]:=by cases ps<;>simp_all[rQ]
  subst this;exact⟨[],a,cap,rfl,rfl,a,cap,rfl,.inl rfl⟩
 ·obtain⟨ts,h1,h2⟩:=oF (fun i (x:PV M w Pq)=>ps[i]?=some x.q/\w.cell? ⟨b,off+i*3,none⟩=some x.u0/\w.cell? ⟨b,off+i*3+1,none⟩=some x.u1/\w.cell? ⟨b,off+i*3+2,none⟩=some x.u2) ps.length fun i hi=>by
   obtain⟨q,hq⟩:∃q,ps[i]?=some q:=⟨_,ay hi⟩
   obtain⟨_,hrep⟩:=hr i (qC q) (by rw[rQ,cC,hq];rfl)
   have hat:∀j,j<3->((cs.toList.drop (off+i*3)).take 3)[j]?=cs[off+i*3+j]?:=fun j hj=>by
    rw[eo,if_pos hj,List.getElem?_drop];simp
   have hl:=hrep.length;generalize hus:(cs.toList.drop (off+i*3)).take 3=us at hrep hl hat
   match us,hrep with
   | [x0,x1,x2],hrep=>
     refine⟨⟨q,x0,x1,x2,hp q (bc hq),hrep⟩,hq,?_,?_,?_⟩
     ·have h0:=hat 0 O;rw[Nat.add_zero]at h0;exact aD hh (by rw[<-h0];rfl)
     ·exact aD hh (by rw[<-hat 1 O];rfl)
     ·exact aD hh (by rw[<-hat 2 O];rfl)
   | [],hrep=>exact hrep.elim
   | [_],hrep=>exact hrep.2.elim
   | [_,_],hrep=>exact hrep.2.2.elim
   | _::_::_::_::_,hrep=>exact hrep.2.2.2.elim
  refine⟨ts,_,cap,by rw[hlen,h1],?_,_,cap,by rw[hlen,h1],.inr ⟨b,off,rfl,(cK.1 hh).1,fun j v hj=>(h2 j v hj).2⟩⟩;refine List.ext_getElem? fun i=>?_;rw[cC];cases hi:ts[i]? with
  | none=>
    have:=List.getElem?_eq_none_iff.1 hi;rw[List.getElem?_eq_none_iff.2 O];rfl
  | some x=>rw[(h2 i x hi).1];rfl
def hP{M:Nat->Prop}{w:World}{Pq:Rat->Prop}(f:List Rat->Rat->List Rat)(pre:List (Nat×PV M w Pq)):List Rat:=pre.foldl (fun v c=>f v c.2.q) []
def aF0{M:Nat->Prop}{w:World}{Pq:Rat->Prop}(f:List Rat->Rat->List Rat)(pre:List (Nat×PV M w Pq))(y:Nat×PV M w Pq):hP f (pre++[y])=f (hP f pre) y.2.q:=by simp[hP]
def aW9{M:Nat->Prop}{w:World}{Pq:Rat->Prop}{f:List Rat->Rat->List Rat}{Inv:Nat->List Rat->Prop}(h0:Inv 0 [])(hs:∀k v c,Inv k v->Pq c->Inv (k+1) (f v c))(pre:List (Nat×PV M w Pq)):Inv pre.length (hP f pre):=by
 have key:∀(l:List (Nat×PV M w Pq))(k:Nat)(v:List Rat),Inv k v->Inv (k+l.length) (l.foldl (fun v c=>f v c.2.q) v):=by
  intro l
  induction l with
  | nil=>intro k v h;exact h
  | cons y l ih=>
    intro k v h;have:=ih (k+1) (f v y.2.q) (hs k v _ h y.2.ok);rw[List.length_cons,show k+(l.length+1)=k+1+l.length by omega];exact this
 have:=key pre 0 [] h0
 rwa[Nat.zero_add]at this
def VR{M:Nat->Prop}{w:World}{c:aE}{vs:List Value}(h:cG M w [.one c] vs):∃v,pack vs=v/\c.rep M w v:=by
 match vs,h with
 | [v],h=>exact⟨v,rfl,h.1⟩
 | [],h=>exact h.elim
 | _::_::_,h=>exact h.2.elim
set_option maxRecDepth 100000 in
def PB(M:Nat->Prop)(w:World)(Pq:Rat->Prop)(f:List Rat->Rat->List Rat)(Inv:Nat->List Rat->Prop)(g:FuncId)(caps:List aE)(h0:Inv 0 [])(hinv:∀k v c,Inv k v->Pq c->Inv (k+1) (f v c))
  (hM:cX M w) [Inhabited (PV M w Pq)] (a:Option Addr) (cap:Nat) (ts:List (PV M w Pq))
  (hstep:∀k v c,k<ts.length->Inv k v->Pq c->aL prog g (.one (sQ v)::qT c::caps.map .one) (.ret [.one (sQ (f v c))]))
  (hI:Sl3 PV.u0 PV.u1 PV.u2 w.heap.size w (.slice a ts.length cap) ts) (z:Value) (hz:(sQ []).rep M w z) (cvs:List Value) (hcv:ab M w caps cvs) (hlen:ts.length<4611686018427387904:=by omega) :
  CallsIn Fence.wide 1001 prog 188 #[.slice a ts.length cap,z,.func (.func g) #[] cvs.toArray] w fun e W'=>Below w.heap.size w W'/\∃u,e=.returned u/\(sQ (hP f (bk ts ts.length))).rep M W' u:=by
 refine xE func188 rfl trivial ?_ rfl;simp only[ntmps188,dW,List.length_cons,bq,Nat.reduceAdd,Nat.reduceSub,dw,dv,du,dz,List.nil_append,List.cons_append];generalize hL:ts.length=L at hI hlen hstep|-;obtain⟨za,zl,zc,rfl⟩:∃za zl zc,z=.slice za zl zc:=by obtain⟨za,zc,e,_⟩:=hz;exact⟨_,_,_,e⟩
 gi_wp2_with (refine⟨trivial,?_⟩;gi_at_call 248;refine(Po _ _ _ _ _).mono ?_;rintro e w' ⟨rfl,rfl⟩)
 obtain⟨n0,hn0⟩:∃n0,w.heap.size=n0:=⟨_,rfl⟩
 obtain⟨hM,hMg⟩:=hM;rw[hn0]at hI hM|-;obtain⟨W0,hW0⟩:∃W0,(((w.alloc (.cells #[.slice za zl zc] 72)).alloc (.cells #[.func (.func g) #[] cvs.toArray] 250)).alloc (.cells #[.slice a L cap] 72))=W0:=⟨_,rfl⟩
 have hs0:W0.heap.size=n0+3:=by rw[<-hW0];simp[hn0]
 have hX0:W0.heap[n0]?=some (.cells #[.slice za zl zc] 72 (0,0)):=by rw[<-hW0,bM _ _ _ (by simp;omega),bM _ _ _ (by simp;omega),<-hn0];exact bG w _
 have hS0:W0.heap[n0+1]?=some (.cells #[.func (.func g) #[] cvs.toArray] 250 (0,0)):=by
  rw[<-hW0,bM _ _ _ (by simp;omega)];have:=bG (w.alloc (.cells #[.slice za zl zc] 72)) (.cells #[.func (.func g) #[] cvs.toArray] 250);rw[bL,hn0]at this;exact this
 have hP0:W0.heap[n0+2]?=some (.cells #[.slice a L cap] 72 (0,0)):=by
  rw[<-hW0];have:=bG ((w.alloc (.cells #[.slice za zl zc] 72)).alloc (.cells #[.func (.func g) #[] cvs.toArray] 250)) (.cells #[.slice a L cap] 72);rw[bL,bL,hn0]at this;exact this
 have hB0:Below n0 w W0:=by
  rw[<-hW0];exact(((cF _ w).alloc O _).alloc (by simp;omega) _).alloc (by simp;omega) _
 rw[hW0]
 refine wpIn_rangeFunc_ownH (w0:=W0) rfl O (gf:=281) (lb:=#[.pointer (some ⟨n0+1+1,0,none⟩)]) rfl trivial (enters_of func281 (by kernel_rfl) rfl)
  (zZ (e0:=PV.u0) (e1:=PV.u1) (e2:=PV.u2) (n0+2) n0 (.slice a L cap) ts O W0 O O (aD hP0 rfl) (hI.below hB0)) Tp (TN O O) (cF _ _) (fun _=>rfl)
  (fun pre W=>Below n0 w W/\n0+3<=W.heap.size/\W.heap[n0+1]?=some (.cells #[.func (.func g) #[] cvs.toArray] 250 (0,0)) /\
   ∃ua ul uc,W.heap[n0]?=some (.cells #[.slice ua ul uc] 72 (0,0))/\(sQ (hP f pre)).rep (fun b=>M b\/b=n0) W (.slice ua ul uc))
  (fun _ _ _=>False) ?own (fun _=>by intro s A B row hs;exact hs.elim) ?start
  (fun y a' W=>∃b,n0+3<=b/\a'={ tmps:=#[.slice a L cap,.slice za zl zc,.func (.func g) #[] cvs.toArray,undef,.pointer (some ⟨n0,0,none⟩),.pointer (some ⟨n0+1,0,none⟩),.slice none 0 0,undef,.pointer (some ⟨b,0,none⟩),.slice a L cap,.func (.func 281) #[] #[.pointer (some ⟨n0+1+1,0,none⟩)],.int .i64 (y.1:Int),.agg #[y.2.u0,y.2.u1,y.2.u2],undef,undef,undef,undef,undef],defers:=[] } /\ W.heap[b]?=some (.cells #[y.2.u0,y.2.u1,y.2.u2] 39 (0,0)))
  ?ax ?assign ?body ?done ?stop
 case own=>
  rintro s A A' row ⟨h1,h2,h3,ua,ul,uc,h5,h6⟩ hg hr;have hr':∀r,row=some r->∃o:Obj,A.heap[r]?=some o/\o.isCells=false:=fun r e=>(hr r e).2;refine⟨h1.grown hg O (fun k e=>by have:=(hr k e).1;omega),Nat.le_trans h2 hg.size,eN hg hr' h3 rfl,ua,ul,uc,eN hg hr' h5 rfl,aE.mono _ (fun b o hb ho hc=>⟨hb,eN hg hr' ho hc⟩) h6⟩
 case start=>
  refine⟨hB0,O,hS0,za,zl,zc,hX0,aE.mono _ (fun b o hb ho hc=>?_) hz⟩;have hlt:=(cK.1 ho).1;exact⟨fun h=>h.elim hb O,(hB0.block b O).trans ho⟩
 case ax=>
  rintro y a' _ A A' row ⟨b,h1,h2,h3⟩ hg hr;exact⟨b,h1,h2,eN hg (fun r e=>(hr r e).2) h3 rfl⟩
 case assign=>
  rintro l pre y W K ⟨h1,h2,h3,ua,ul,uc,h5,h6⟩ hK
  gi_wp2
  obtain⟨o0,o1,o2⟩:y.2.u0.oneCell'=true/\y.2.u1.oneCell'=true/\y.2.u2.oneCell'=true:=by
   have:=y.2.rep.one;exact⟨this _ (by simp),this _ (by simp),this _ (by simp)⟩
  have hnew:=bG W (.cells #[.slice none 0 0,.bool false,.slice none 0 0] 39);rw[ur hnew o0 o1 o2];obtain⟨W',hW'⟩:∃W',(W.alloc (.cells #[.slice none 0 0,.bool false,.slice none 0 0] 39)).setRow W.heap.size #[y.2.u0,y.2.u1,y.2.u2]=W':=⟨_,rfl⟩
  have hold:∀k,k<W.heap.size->W'.heap[k]?=W.heap[k]?:=fun k hk=>by rw[<-hW',dC _ _ _ _ O,bM _ _ _ hk]
  have hself:W'.heap[W.heap.size]?=some (.cells #[y.2.u0,y.2.u1,y.2.u2] 39 (0,0)):=by rw[<-hW'];exact cJ _ _ _ _ _ _ hnew
  have hbel:Below W.heap.size W W':=by rw[<-hW'];exact below_setRow ((cF _ W).alloc (aY _) _) _ (aY _)
  have hlt:∀{k:Nat}{o:Obj},W.heap[k]?=some o->k<W.heap.size:=fun h=>(cK.1 h).1;rw[hW']
  gi_wp2
  refine hK _ _ ⟨hbel.size,fun k o _ ho _=>(hold k (hlt ho)).trans ho⟩ ⟨hbel.mono O,fun v hv=>?_⟩
   ⟨h1.trans (hbel.mono O),Nat.le_trans h2 hbel.size,(hold _ (hlt h3)).trans h3,ua,ul,uc,(hold _ (hlt h5)).trans h5,aE.mono _ (fun b o hb ho _=>⟨hb,(hold b (hlt ho)).trans ho⟩) h6⟩
   ⟨W.heap.size,O,rfl,hself⟩
  simp only[World.cell?,hold (n0+2) O]at hv|-;exact hv
 case body=>
  rintro l pre y a' W hl _ ⟨h1,h2,h3,ua,ul,uc,h5,h6⟩ ⟨b,hb,rfl,hbc⟩ hlt;have hltW:∀{k:Nat}{o:Obj},W.heap[k]?=some o->k<W.heap.size:=fun h=>(cK.1 h).1;have c0:W.cell? ⟨n0,0,none⟩=some (.slice ua ul uc):=aD h5 rfl;have cs:W.cell? ⟨n0+1,0,none⟩=some (.func (.func g) #[] cvs.toArray):=aD h3 rfl;have cb0:W.cell? ⟨b,0,none⟩=some y.2.u0:=aD hbc rfl;have cb1:W.cell? ⟨b,1,none⟩=some y.2.u1:=aD hbc rfl;have cb2:W.cell? ⟨b,2,none⟩=some y.2.u2:=aD hbc rfl;have hM1:∀k,(M k\/k=n0)->k<W.heap.size:=fun k h=>h.elim (fun h=>by have:=hM k h;omega) (fun h=>O)
  have hkeep:bP M w (fun b=>M b\/b=n0) W:=fun k o hk ho _=>by
   have hlt:=(cK.1 ho).1;exact⟨fun h=>h.elim hk O,(h1.block k O).trans ho⟩
  rw[hL]at hlt;have hdo:=hstep pre.length (hP f pre) y.2.q hlt (aW9 h0 hinv pre) y.2.ok
  have hcall:Calls prog g (Value.slice ua ul uc::Value.agg #[y.2.u0,y.2.u1,y.2.u2]::cvs).toArray W fun e w'=>Below W.heap.size W w'/\∃va vl vc,e=.returned (.slice va vl vc)/\(sQ (hP f (pre++[y]))).rep (fun b=>M b\/b=n0) w' (.slice va vl vc):=by
   have h7:=hdo.2 (fun b=>M b\/b=n0) W (.slice ua ul uc::.agg #[y.2.u0,y.2.u1,y.2.u2]::cvs) ⟨hM1,hMg.gj hkeep⟩ ⟨h6,⟨[_,_,_],rfl,y.2.rep.mono hkeep⟩,cG.xk (hcv.mono hkeep)⟩;refine h7.mono ?_;rintro e w' ⟨hb',vs,rfl,hvs⟩;rw[aF0];obtain⟨v,e1,hr⟩:=VR hvs;have hr':=hr;obtain⟨va,vc,rfl,_⟩:=hr';exact⟨hb',va,_,vc,by rw[e1],hr⟩
  have eg:∀args w,(callFunc g args).run prog w=.ok (.enter g args) w:=hdo.1
  gi_wp2
  refine⟨trivial,(qq l (iR.2 hcall)).mono ?_⟩;rintro e w' ⟨hbw,va,vl,vc,rfl,hvr⟩;have hbox:w'.heap[n0]?=some (.cells #[.slice ua ul uc] 72 (0,0)):=(hbw.block n0 (hltW h5)).trans h5;have d0:w'.cell? ⟨n0,0,none⟩=some (.slice ua ul uc):=aD hbox rfl;have df:w'.frozen? ⟨n0,0,none⟩=false:=by simp[World.frozen?,hbox]
  gi_wp2
  rw[tn w' n0 0 #[.slice ua ul uc] 72 (0,0) (.slice va vl vc) hbox];obtain⟨W3,hW3⟩:∃W3,w'.setRow n0 (#[Value.slice ua ul uc].setIfInBounds 0 (.slice va vl vc))=W3:=⟨_,rfl⟩
  have hself:W3.heap[n0]?=some (.cells #[.slice va vl vc] 72 (0,0)):=by rw[<-hW3];exact cJ _ _ _ _ _ _ hbox
  have hoth:∀k,k≠n0->W3.heap[k]?=w'.heap[k]?:=fun k hk=>by rw[<-hW3,dC _ _ _ _ hk]
  have hold:∀{k:Nat}{o:Obj},k≠n0->W.heap[k]?=some o->W3.heap[k]?=some o:=fun hk ho=>(hoth _ hk).trans ((hbw.block _ (hltW ho)).trans ho);have hbel:Below n0 W W3:=by rw[<-hW3];exact below_setRow (hbw.mono O) _ (aY _)
  rw[hW3];refine⟨⟨hbel.size,fun k o hk ho _=>hold O ho⟩,⟨hbel,fun v hv=>?_⟩,h1.trans hbel,Nat.le_trans h2 hbel.size,hold O h3,va,vl,vc,hself,aE.mono _ (fun k o hk ho hc=>⟨hk,(hoth k fun e=>hk (.inr e)).trans ho⟩) hvr⟩;simp only[World.cell?,hoth (n0+2) O,hbw.block (n0+2) O]at hv|-;exact hv
 case done=>
  rintro D ys W hD rfl ⟨h1,h2,h3,ua,ul,uc,h5,h6⟩ hK;have c0:W.cell? ⟨n0,0,none⟩=some (.slice ua ul uc):=aD h5 rfl
  gi_wp2
  refine⟨by simp,.inl ⟨_,_,rfl,wP hK,?_⟩⟩;refine⟨_,Cb rfl _ _ _,?_,⟨_,rfl,by rw[<-hL];exact aE.mono _ (fun k o hk ho hc=>⟨fun h=>hk (.inl h),(su (fun e=>by rw[e,hK]at ho;cases ho;cases hc)).trans ho⟩) h6⟩⟩;rw[<-hn0]at h1;exact h1.trans (tz (w:=w) (aY _) W D _ _ O hK rfl rfl)
 case stop=>
  rintro D c pre W hD _ h hK;exact h.elim
def bx6{M:Nat->Prop}{w:World}{Pq:Rat->Prop}[Inhabited (PV M w Pq)](f:List Rat->Rat->List Rat)(ts:List (PV M w Pq)):hP f (bk ts ts.length)=(ts.map PV.q).foldr (fun c v=>f v c) []:=by
 have h:hP f (bk ts ts.length)=((bk ts ts.length).map Prod.snd).foldl (fun v c=>f v c.q) []:=by rw[hP,List.foldl_map]
 rw[h,Xp,List.foldl_reverse,List.foldr_map]
def RV(ps:List Rat)(Pq:Rat->Prop)(f:List Rat->Rat->List Rat)(Inv:Nat->List Rat->Prop)(g:FuncId)(caps:List aE)(h0:Inv 0 [])(hinv:∀k v c,Inv k v->Pq c->Inv (k+1) (f v c))
  (hp:∀q∈ps,Pq q) (hz:Pq 0) (hlen:ps.length<4611686018427387904)
  (hstep:∀k v c,k<ps.length->Inv k v->Pq c->aL prog g (.one (sQ v)::qT c::caps.map .one) (.ret [.one (sQ (f v c))])) :
  aL prog 188 [.one (sQ ps),.one (sQ []),.one (.jO g caps)] (.ret [.one (sQ (ps.foldr (fun c v=>f v c) []))]):=by
 refine⟨bJ (by kernel_rfl),fun M w vs hM hv=>?_⟩
 match vs,hv with
 | [v0,v1,v2],⟨k0,k1,⟨fs,k2,hfs⟩,_⟩=>
   obtain⟨ts,a,cap,rfl,hq,hsl⟩:=aW5 k0 hp
   haveI:Inhabited (PV M w Pq):=⟨⟨0,.slice none 0 0,.bool false,.slice none 0 0,hz,ab.sub db ⟨⟨rfl,rfl⟩,⟨rfl,rfl⟩,⟨rfl,rfl⟩,trivial⟩⟩⟩
   subst k2;have hl:ps.length=ts.length:=by rw[<-hq,aR]
   have h1:=PB M w Pq f Inv g caps h0 hinv hM a cap ts (by rw[<-hl];exact hstep) hsl v1 k1 fs hfs;rw[bx6,hq]at h1;refine((iR (n:=1001)).1 h1).mono ?_;rintro e w' ⟨hb,u,rfl,hr⟩;exact⟨hb,[u],rfl,hr,trivial⟩
 | [],hv=>exact hv.elim
 | [_],hv=>exact hv.2.elim
 | [_,_],hv=>exact hv.2.2.elim
 | _::_::_::_::_,hv=>exact hv.2.2.2.elim
end Go.Sy
namespace Go.Sy
open Go Go.Proofs Tryz Ord
theorem tw(x:Rat):∀p:List Rat,ev (trim p) x=ev p x
 | []=>rfl
 | a::p=>by
   have ih:=tw x p;unfold trim at ih|-;rw[cz];split
   ·rename_i h;rw[h.1,ma,cP]at ih;have ha:a=0:=by simpa[zr]using h.2
    rw[ma,cP,ai,<-ih,ha];grind
   ·rw[List.take_succ_cons,ai,ai,ih]
theorem FV:∀p:List Rat,qy (trim p)
 | []=>fun a h=>by cases h
 | a::p=>by
   have ih:=FV p;unfold trim at ih|-;rw[cz];split
   ·intro b hb;cases hb
   ·rename_i h;intro b hb;rw[List.take_succ_cons,List.getLast?_cons]at hb;cases hl:(p.take (cz zr p)).getLast? with
    | some c=>
      rw[hl]at hb;simp only[ei,aI]at hb;subst hb;exact ih c hl
    | none=>
      rw[hl]at hb;simp only[Option.getD_none,aI]at hb;subst hb;intro e;refine h ⟨?_,by simp[zr,e]⟩;have h1:=an4.1 hl;have h2:min (cz zr p) p.length=0:=by rw[<-List.length_take,h1];rfl
      have:=iI (z:=zr) p;omega
theorem Dc(x:Rat):∀(p:List Rat)(m:Nat),p.length<=m->ev ((List.range m).map fun i=>p.getD i 0) x=ev p x
 | [],m,_=>by
   have:(List.range m).map (fun i=>([]:List Rat).getD i 0)=List.replicate m 0:=by
    apply List.ext_getElem?;intro i;rw[cC,wc];by_cases h:i<m
    ·rw[gv h,if_pos h];rfl
    ·rw[if_neg h,fD (by simpa using h)];rfl
   rw[this,PN,cP]
 | a::p,0,h=>by simp at h
 | a::p,m+1,h=>by
   rw[List.range_succ_eq_map,dY,ai,eU,ai];have:=Dc x p m (by simpa using h);rw[<-this];rfl
theorem ag7(x:Rat)(f g:Nat->Rat):∀l:List Nat,ev (l.map fun i=>f i+g i) x=ev (l.map f) x+ev (l.map g) x
 | []=>by simp only[lI,cP];grind
 | a::l=>by rw[dY,dY,dY,ai,ai,ai,ag7 x f g l];grind
def Sb(x:Rat)(p q:List Rat):ev (Kt p q) x=ev p x+ev q x:=by
 rw[Kt,tw,ag7,Dc x p _ (Nat.le_max_left _ _),Dc x q _ (JF _ _)]
def aq3(x:Rat)(p q:List Rat):ev (uH p q) x=ev p x*ev q x:=by
 unfold uH;split
 ·rename_i h;rcases h with rfl | rfl
  ·rw[cP];grind
  ·rw[cP];grind
 ·rename_i h;have hq:0<q.length:=List.length_pos_iff.2 fun e=>h (.inr e);rw[tw,Tj p q x hq _ (aY _),List.take_length]
def EI(p q:List Rat):qy (Kt p q):=FV _
def vq{p:List Rat}{a:Rat}(h:a∈trim p):a∈p:=List.mem_of_mem_take h
def oK(p:List Rat):(trim p).length<=p.length:=by rw[gz];exact iI _
def NH(p q:List Rat):(Kt p q).length<=max p.length q.length:=by
 have:=oK ((List.range (max p.length q.length)).map fun i=>p.getD i 0+q.getD i 0);rw[aR,mA]at this;exact this
def ax9{D S T:Nat}(h0:D≠0){p q:List Rat}(hp:∀a∈p,Bd D S a)(hq:∀a∈q,Bd D T a):∀a∈Kt p q,Bd D (S+T) a:=fun a ha=>by
 obtain⟨i,_,rfl⟩:=gn.1 (vq ha);exact(ij hp i).add h0 (ij hq i)
def zP(p q:List Rat):(uH p q).length<=if p=[]then 0 else p.length+q.length-1:=by
 unfold uH;split
 ·simp
 ·rename_i h;rw[if_neg (fun e=>h (.inl e))];have:=oK (mulL p q p.length);rw[jG]at this;exact this
def SZ{D E S T:Nat}(h0:D≠0)(h1:E≠0){p q:List Rat}(hp:∀a∈p,Bd D S a)(hq:∀b∈q,Bd E T b):∀x∈uH p q,Bd (D*E) (p.length*(S*T)) x:=fun x hx=>by
 unfold uH at hx;split at hx
 ·cases hx
 ·exact BN h0 h1 hp hq _ x (vq hx)
def IC(q v:List Rat)(c:Rat):List Rat:=Kt (uH v q) (trim [c])
def sU(p q:List Rat):List Rat:=p.foldr (fun c v=>IC q v c) []
theorem zD(x:Rat)(q:List Rat):∀p:List Rat,ev (sU p q) x=ev p (ev q x)
 | []=>rfl
 | a::p=>by
   have ih:=zD x q p;unfold sU at ih|-;rw[List.foldr_cons,IC,Sb,aq3,tw,ih,ai,ai,cP];grind
def mR(p q:List Rat):qy (sU p q):=by
 cases p with
 | nil=>intro a h;cases h
 | cons a p=>exact EI _ _
def ZV(D E S T K:Nat)(k:Nat)(v:List Rat):Prop:=k<=K->v.length<=k/\∀a∈v,Bd (D*E^k) (S*(K*T+1)^k) a
def Vk{D E S T K:Nat}:ZV D E S T K 0 []:=fun _=>⟨aY _,fun a h=>by cases h⟩
def Rx{E:Nat}(h:E≠0)(k:Nat):E^k≠0:=fun e=>h (Nat.pow_eq_zero.1 e).1
def Wm{D E S T K:Nat}(h0:D≠0)(h1:E≠0){q:List Rat}(hq:∀b∈q,Bd E T b)(hql:q.length<=2)(k:Nat)(v:List Rat)(c:Rat)(h:ZV D E S T K k v)(hc:Bd D S c):ZV D E S T K (k+1) (IC q v c):=by
 intro hk;obtain⟨hl,hb⟩:=h O;have hDk:D*E^k≠0:=Nat.mul_ne_zero h0 (Rx h1 k);have hD1:D*E^(k+1)≠0:=Nat.mul_ne_zero h0 (Rx h1 _)
 constructor
 ·have h2:=NH (uH v q) (trim [c]);have h3:=zP v q;have h4:=oK [c];unfold IC;split at h3<;>simp at h4<;>omega
 ·have h2:=SZ hDk h1 hb hq
  have h3:∀x∈uH v q,Bd (D*E^(k+1)) (K*T*(S*(K*T+1)^k)) x:=fun x hx=>by
   refine(h2 x hx).mono ⟨1,by rw[Nat.pow_succ,Nat.mul_one,Nat.mul_assoc]⟩ ?_;have:v.length*(S*(K*T+1)^k*T)<=K*(S*(K*T+1)^k*T):=Nat.mul_le_mul_right _ O;refine Nat.le_trans this (oU ?_);rw[Nat.mul_comm (S*_) T,Nat.mul_assoc]
  have h4:∀x∈trim [c],Bd (D*E^(k+1)) (S*(K*T+1)^k) x:=fun x hx=>by
   have:=vq hx;rw[fH]at this;subst this;exact hc.mono (qL _ _) (Nat.le_mul_of_pos_right _ (Nat.pow_pos O))
  intro a ha;refine(ax9 hD1 h3 h4 a ha).le (oU ?_);rw[Nat.pow_succ];generalize (K*T+1)^k=r;generalize K*T=u
  grind
def pk(D E S T K:Nat):Nat:=D*E^K*E*((K+1)*((S*(K*T+1)^K+1)*(T+1)))
def QT{D E S T K k n:Nat}(h0:D≠0)(h1:E≠0)(hk:k<=K)(hn:n<=K):D*E^k*E*((n+1)*((S*(K*T+1)^k+1)*(T+1)))<=pk D E S T K:=by
 unfold pk;refine cV (Nat.mul_le_mul_right _ (Nat.mul_le_mul_left _ (Nat.pow_le_pow_right O hk))) (cV O (Nat.mul_le_mul_right _ ?_));have:=Nat.mul_le_mul_left S (Nat.pow_le_pow_right (n:=K*T+1) O hk);omega
def aQ0:Tr:=dV 32 [(W 0 0),(W 2 0)] [none] [6,7] [72,72] 72 false (DH 190 1 9 39 72 (oL 30 3 0 4 8 10 72 72 72 PE))
def JC:aM prog f189 bZ [.v none,.v (some 3),.ref 1]=aQ0:=by kernel_rfl
def be9:Tr:=.need (.call 188 [(W 0 0),(.one (.c (.k (.slice none 0 0)))),(.one (.jO 189 [(.ref 0 [(.u 1 0)])]))] [none]) (.call ⟨.value (.func 188),#[(tT 5),(.const (.slice none 0 0)),(tT 6)],#[72,72,250]⟩) 72 true ZB
def RD:aM prog f110 bZ [.v none,.v none]=be9:=by kernel_rfl
def aV8:Tr:=DH 111 1 6 39 72 (oL 110 0 0 2 5 7 72 72 72 (bI 3))
def YP:aM prog f31 bZ [.v none,.v (some 3)]=aV8:=by kernel_rfl
def LD(v q:List Rat)(c:Rat)(D E S T K k B:Nat)(h0:D≠0)(h1:E≠0)(hq:∀b∈q,Bd E T b)(hql:q.length<=2)(hv:ZV D E S T K k v)(hc:Bd D S c)(hK:K<=1073741824)(hB:B<=8589934592)(hX:pk D E S T K<2^B)(hk:k<K:=by omega):aL prog 189 [(.one (sQ v):aG),(qT c:aG),(.one (.aj ([sQ q])):aG)] (.ret [.one (sQ (IC q v c))]):=by
 refine dvr (ins:=[.v (.one (sQ v)),.v (qT c),.ref ([sQ q])]) func189 JC ?_;obtain⟨hl,hb⟩:=hv O;have hDk:D*E^k≠0:=Nat.mul_ne_zero h0 (Rx h1 k);have hX1:=Nat.lt_of_le_of_lt (QT (S:=S) (T:=T) (k:=k) (n:=v.length) h0 h1 O (show v.length<=K by omega)) hX;obtain⟨f1,f2,f3,f4⟩:=NI hDk h1 hX1
 have hB1:1<=B:=by
  rcases Nat.eq_zero_or_pos B with rfl | h
  ·exfalso
   have:0<D*E^k*E*((v.length+1)*((S*(K*T+1)^k+1)*(T+1))):=Nat.mul_pos (pQ (Nat.mul_ne_zero hDk h1)) (Nat.mul_pos O (Nat.mul_pos O O));omega
  ·exact h
 have hm:∀a∈uH v q,Fit B a:=fun a ha=>by
  have:=SZ hDk h1 hb hq a ha;rcases Nat.eq_zero_or_pos v.length with h | h
  ·have:v=[]:=fu h;subst this;simp[uH]at ha
  ·refine f3 a (v.length-1) O (this.le (oU ?_));rw[show v.length=v.length-1+1 by omega,Nat.add_mul,Nat.one_mul,Nat.add_sub_cancel]
 have ht:∀a∈trim [c],Fit B a:=fun a ha=>by
  have:=vq ha;rw[fH]at this;subst this;exact f1 _ (hc.mono (qL _ _) (Nat.le_mul_of_pos_right _ (Nat.pow_pos O)))
 have l1:=zP v q;have l2:=oK [c];apply aA (bi9 v q (D*E^k) E (S*(K*T+1)^k) T B hDk h1 hb hq hB hX1);apply aA (Nq c);apply aA (bf0 (uH v q) (trim [c]) B B hB1 hB1 hm ht (by split at l1<;>omega) (by simp at l2;omega)) rfl;exact aK
def Qa(p q:List Rat)(D E S T K B:Nat)(h0:D≠0)(h1:E≠0)(hp:∀a∈p,Bd D S a)(hq:∀b∈q,Bd E T b)(hql:q.length<=2)(hpl:p.length<=K)(hK:K<=1073741824)(hB:B<=8589934592)(hX:pk D E S T K<2^B):aL prog 110 [(.one (sQ p):aG),(.one (sQ q):aG)] (.ret [.one (sQ (sU p q))]):=by
 refine bw func110 RD ?_
 refine Jq (show aQ [.one (sQ p),.one (.exact (.slice none 0 0)),.one (.jO 189 [.aj [sQ q]])] [.one (sQ p),.one (sQ []),.one (.jO 189 [.aj [sQ q]])]from⟨aG.Sub.same,aE.Sub.nil,aG.Sub.same,trivial⟩)
  (RV p (Bd D S) (fun v c=>IC q v c) (ZV D E S T K) 189 [.aj [sQ q]] Vk (fun k v c hv hc=>Wm h0 h1 hq hql k v c hv hc) hp Bd.zero O
   (fun k v c hk hv hc=>LD v q c D E S T K k B h0 h1 hq hql hv hc hK hB hX)) rfl ?_
 exact aK
def di(p:List Rat)(c:Rat):List Rat:=sU p [c,1]
def mE(p:List Rat)(c x:Rat):ev (di p c) x=ev p (x+c):=by
 rw[di,zD];simp only[ai,cP]
 congr 1;grind
def Xk(p:List Rat)(c:Rat)(D E S T K B:Nat)(h0:D≠0)(h1:E≠0)(hp:∀a∈p,Bd D S a)(hc:Bd E T c)(hT:1<=T)(hpl:p.length<=K)(hK:K<=1073741824)(hB:B<=8589934592)(hX:pk D E S T K<2^B):aL prog 31 [(.one (sQ p):aG),(qT c:aG)] (.ret [.one (sQ (di p c))]):=by
 refine bw func31 YP ?_;apply aA (aI6 c)
 apply aA (Qa p [c,1] D E S T K B h0 h1 hp (fun b hb=>by
  rcases List.mem_cons.1 hb with rfl | hb
  ·exact hc
  ·rw[fH]at hb;subst hb;exact Bd.one hT) (by simp) hpl hK hB hX) rfl
 exact aK
end Go.Sy
namespace Ord
theorem Bd.pow{D S:Nat}(h0:D≠0){x:Rat}(h:Bd D S x):∀n:Nat,Bd (D^n) (S^n) (x^n)
 | 0=>by rw[Nat.pow_zero,Nat.pow_zero,Rat.pow_zero];exact Bd.one (Nat.le_refl 1)
 | n+1=>by
   rw[Nat.pow_succ,Nat.pow_succ,Rat.pow_succ];exact Bd.mul (fun e=>h0 (Nat.pow_eq_zero.1 e).1) h0 (Bd.pow h0 h n) h
def aq(z:Int):Nat->Int
 | 0=>1
 | i+1=>aq z i*(z-i)
theorem mX{z:Int}{N:Nat}:∀i:Nat,z.natAbs+i<=N->(aq z i).natAbs<=N^i
 | 0,_=>by simp[aq]
 | i+1,h=>by
   rw[aq,Int.natAbs_mul,Nat.pow_succ];exact Nat.mul_le_mul (mX i O) O
def inner(p a:List Rat)(m n i:Nat)(x:Rat):Nat->Rat
 | 0=>x
 | k+1=>if i<m+k then inner p a m n i x k-p.getD k 0*((aq ((n:Int)-((m:Int)+k-i)) i:Int):Rat)*a.getD (n-(m+k-i)) 0 else inner p a m n i x k
def outer(q:List (List Rat))(a:List Rat)(m n:Nat):Nat->Rat
 | 0=>0
 | i+1=>inner (q.getD i []) a m n i (outer q a m n i) (min (q.getD i []).length (n-m+1))
def kp(q:List (List Rat))(m:Nat)(lead:Rat)(y:List Rat)(n:Nat)(a:List Rat):Rat:=
 if n<m then y.getD n 0/((aq n n:Int):Rat)else outer q a m n q.length/(lead*((aq n m:Int):Rat))
def aN(q:List (List Rat))(m:Nat)(lead:Rat)(y:List Rat):Nat->List Rat
 | 0=>[]
 | n+1=>aN q m lead y n++[kp q m lead y n (aN q m lead y n)]
theorem bE(q:List (List Rat))(m:Nat)(lead:Rat)(y:List Rat):∀n,(aN q m lead y n).length=n
 | 0=>rfl
 | n+1=>by rw[aN,List.length_append,bE q m lead y n];rfl
def og(q:List (List Rat))(m:Nat)(lead:Rat)(y:List Rat){k n:Nat}(h:k<=n:=by omega):(aN q m lead y n).take k=aN q m lead y k:=by
 induction n with
 | zero=>
   obtain rfl:k=0:=O
   rfl
 | succ n ih=>
   rcases Nat.lt_or_ge n k with h1 | h1
   ·obtain rfl:k=n+1:=O
    rw[List.take_of_length_le (by rw[bE];omega)]
   ·rw[aN,List.take_append_of_le_length (by rw[bE];exact h1),ih h1]
structure gm(B:Nat)(q:List (List Rat))(m:Nat)(lead:Rat)(y:List Rat)(N:Nat):Prop where
 flead:Fit B lead
 fy:∀x∈y,Fit B x
 fq:∀p∈q,∀x∈p,Fit B x
 ffall:∀n i:Nat,n<N->i<=m->∀z:Int,z.natAbs<=N->∀j≤i,Fit B ((aq z j:Int):Rat)
 ffac:∀n:Nat,n<m->∀j≤n,Fit B ((aq n j:Int):Rat)
 fa:∀n,n<N->Fit B (kp q m lead y n (aN q m lead y n))
 fx:∀n i k,n<N->m<=n->i<q.length->k<=min (q.getD i []).length (n-m+1)->Fit B (inner (q.getD i []) (aN q m lead y n) m n i (outer q (aN q m lead y n) m n i) k)
end Ord
namespace Ord
theorem qB{z:Int}:∀{i:Nat},(i:Int)<=z->aq z i≠0
 | 0,_=>by simp[aq]
 | i+1,h=>by
   rw[aq];exact Int.mul_ne_zero (qB (i:=i) O) O
end Ord
namespace Go.Sy
open Go Go.Proofs Tryz Ord
def be0:Tr:=cU 3 1 0 3 9 8 4 (aH 7 0 (da 0 0 3 0 3 13 14 (lZ 68 8 3 15 2 39 (iQ 36 4 0 5 0 6 0 9 0 9 1 9 2 12 16 (bD 3 1 3 9 (uL 0 11 10 10 1 10 2))))) (fW 4 5 0 6 0))
def bf3:Tr:=lX 68 1 3 2 39 (.loop 0 [lK 0,lV 2 0,lV 2 1,lV 2 2] be0)
def QP:aM prog f209 bZ [.v none,.v none]=bf3:=by kernel_rfl
def bj0:Tr:=qA .rem 3 11 2 3 0 3 (eH 11 0 1 3 12 (aH 12 0 (iQ 36 7 0 8 0 9 0 4 0 5 0 6 0 14 15 (iQ 36 4 0 5 0 6 0 4 0 5 0 6 0 17 18 (qA .quo 3 9 2 3 0 3 (.back 0 [lV 15 0,lV 14 0,lV 14 1,lV 14 2,lV 13 0,lV 13 1,lV 13 2])))) (iQ 36 4 0 5 0 6 0 4 0 5 0 6 0 17 18 (qA .quo 3 9 2 3 0 3 (.back 0 [lV 14 0,lV 13 0,lV 13 1,lV 13 2,lV 7 0,lV 8 0,lV 9 0])))))
def bq8:Tr:=lX 68 1 3 2 39 (.loop 0 [lV 1 0,lV 0 0,lV 0 1,lV 0 2,lV 2 0,lV 2 1,lV 2 2] (fL 3 0 0 3 7 (aH 10 0 bj0 (fW 7 8 0 9 0))))
def UE:aM prog f203 bZ [.v (some 3),.v none]=bq8:=by kernel_rfl
def bf5:Tr:=dV 200 [(G3 0),(G3 1)] [(some 3),none] [8,9] [39,39] 90 false (fW 2 2 1 2 2)
def as4:aM prog f207 bZ [.v (some 3),.v (some 3)]=bf5:=by kernel_rfl
def bo5:Tr:=aH 4 0 (gb 0 0 3 0 31 7 9 (bm 5 72 11 (qt 95 6 14 72 3 (Yl 7 13 15 (bD 3 1 3 9 (jj 0 8 9)))))) (fG 0 1 2 0 3 19 20 PE)
def bm1:Tr:=au 0 0 7 31 (ym (cU 3 1 0 3 9 8 0 bo5))
def WY:aM prog f204 bZ [.v (some 5)]=bm1:=by kernel_rfl
def bq1:Tr:=gb 0 0 5 0 32 12 14 (bm 12 72 16 (dV 31 [(W 13 0),(G3 1)] [none] [20,21] [72,39] 72 true (pa 14 31 22 (gU 1 24 6 15 19 23 31 (bD 5 1 3 14 (.back 0 [lV 17 0,.row 16,lV 7 0,lV 8 0,lV 9 0,lV 10 0]))))))
def ba3:Tr:=cU 5 4 0 3 14 13 0 (aH 11 0 bq1 (dL 6 7 31 28 30 (lQ 6 7 72 31 (oZ 12 0 0 72 32 (dB 13 3 39 33 (.ret [(.agg [(.c (.sr 1 6)),(U 7 0),(U 14 0),(U 14 1),(U 14 2)])]))))))
def be6:Tr:=au 0 0 8 32 (fP 2 1 9 (au 0 0 12 32 (.loop 0 [lK 0,.nilrow,lV 3 0,lN,(.w (.one (.c (.k (.bool false))))),lN] ba3)))
def bA7:aM prog f100 bZ [.v none,.v (some 3)]=be6:=by kernel_rfl
def bo4:Tr:=DR 158 1 2 37 (lZ 256 0 1 4 3 35 (Pk 115 1 2 3 3 5 39 (fW 3 3 1 3 2)))
def Xu:aM prog f202 bZ [.v none]=bo4:=by kernel_rfl
def aT0:Tr:=Pz 2 (.need (.call 283 [(W 0 0),(WK 256)] [none]) (.call ⟨.value (.func 283),#[(tT 4),(.const (I3 256))],#[3,3]⟩) 3 true (dV 282 [(G1 1),(W 2 0)] [(some 1)] [3,5] [35,3] 35 true (pR 3)))
def aN4:aM prog f256 bZ [.v none]=aT0:=by kernel_rfl
def intCast_mul(a b:Int):((a:Rat)*(b:Rat))=((a*b:Int):Rat):=(tM a b).symm
def iv(z:Int)(i B:Nat)(h64:64<=B)(hf:∀j,j<=i->Fit B ((aq z j:Int):Rat))(hz1:-4611686018427387904<=z:=by omega)(hz2:z<4611686018427387904:=by omega)(hi:i<4611686018427387904:=by omega)(hB:B<=17179869184:=by omega):aL prog 209 [(.one (.int .i64 z):aG),(.one (.int .i64 i):aG)] (.ret [qT ((aq z i:Int):Rat)]):=by
 refine bw func209 QP ?_;apply aA (mN 1);refine ao {j:Nat // j<=i} (fun g=>(.one (.int .i64 g.1):aG)::(qC ((aq z g.1:Int):Rat)).map .one) (fun g=>i-g.1) ⟨0,bO _⟩ aQ.rfl (fun _=>rfl) ?_;rintro⟨j,hj⟩;dsimp only[aO,aP,List.map]at hj|-;apply vn ak;refine vs _ rfl ?_ ?_<;>intro h3
 ·apply vn aJ;apply aA (mN (z-j));apply aA (bg _ _ B 64 (hf j hj) (Fit.int O O));rw[intCast_mul];apply vn aC;dsimp only[aO,aP];exact aW rfl ⟨⟨j+1,O⟩,aQ.rfl,by show i-(j+1)<i-j;omega⟩
 rw[show i=j by omega];exact aK
def Pf(x:Rat)(j:Nat):x^j*x^j=x^(2*j):=by rw[show 2*j=j+j by omega,mi]
def bf6{n i j k:Nat}(h1:i+j*k=n)(hm:k%2=1):i+j+2*j*(k/2)=n:=by
 have h:k=2*(k/2)+1:=O
 generalize k/2=t at *;subst h;subst h1;grind
def aB8{n i j k:Nat}(h1:i+j*k=n)(hm:k%2=0):i+2*j*(k/2)=n:=by
 have h:k=2*(k/2):=O
 generalize k/2=t at *;subst h;subst h1;grind
def iC(x:Rat)(n B:Nat)(hf:∀j,j<=2*n+1->Fit B (x^j))(hn:n<4611686018427387904:=by omega)(hB:B<=17179869184:=by omega):aL prog 203 [(qT x:aG),(.one (.int .i64 n):aG)] (.ret [qT (x^n)]):=by
 refine bw func203 UE ?_;apply aA (mN 1);dsimp only[aO,aP]
 refine ao {g:Nat×Nat×Nat // g.2.1+g.2.2*g.1=n/\g.2.2<=2*n+1/\g.1<=n} (fun g=>(.one (.int .i64 g.1.1):aG)::((qC (x^g.1.2.2)).map .one++(qC (x^g.1.2.1)).map .one)) (fun g=>g.1.1) ⟨(n,0,1),by show 0+1*n=n;omega,by show 1<=_;omega,aY n⟩ (show aQ _ _ by
  dsimp only;rw[ej,show x^1=x by rw[gM,ej];grind];exact aQ.rfl) (fun _=>rfl) ?_
 rintro⟨⟨k,i,j⟩,h1,h2,hkn⟩;dsimp only[aO,aP,List.map]at h1 h2 hkn|-;apply vn dZ;refine vs _ rfl ?_ ?_<;>intro h3
 ·have hk:0<k:=O
  have hjk:j<=j*k:=Nat.le_mul_of_pos_right _ hk
  have hj2:2*j<=2*n+1:=by
   generalize j*k=u at h1 hjk;omega
  apply vn dd;apply vn bK;refine vs _ rfl ?_ ?_<;>intro h6
  ·apply aA (bg _ _ B B (hf i O) (hf j O));rw[<-mi];apply aA (bg _ _ B B (hf j O) (hf j O));rw[Pf];apply vn iD;dsimp only[aO,aP];have hm:k%2=1:=O
   exact aW rfl ⟨⟨(k/2,i+j,2*j),bf6 h1 hm,hj2,Nat.le_trans (Nat.div_le_self _ _) hkn⟩,aQ.rfl,by show k/2<k;omega⟩
  apply aA (bg _ _ B B (hf j O) (hf j O));rw[Pf];apply vn iD;dsimp only[aO,aP];have hm:k%2=0:=O
  exact aW rfl ⟨⟨(k/2,i,2*j),aB8 h1 hm,hj2,Nat.le_trans (Nat.div_le_self _ _) hkn⟩,aQ.rfl,by show k/2<k;omega⟩
 have hk:k=0:=O
 subst hk;rw[show n=i by omega];exact aK
def qa(a b:Rat)(A B:Nat)(hb0:b≠0)(ha:Fit A a)(hb:Fit B b)(h:A+B<=34359738368:=by omega):aL prog 207 [(qT a:aG),(qT b:aG)] (.ret [qT (a/b)]):=by
 refine bw func207 as4 ?_;have hd:=af8 a b A B ha hb h;rw[if_neg hb0,if_neg hb0]at hd;apply aA hd;exact aK
abbrev yZ(q:List (List Rat))(m:Nat)(lead:Rat):aG:=.agg ([eQ q,.int .i64 m]++qC lead)
def aa(q:List (List Rat)):Nat:=q.foldl (fun d p=>max d (cz zr p-1)) 0
def zJ(q:List (List Rat))(p:List Rat):aa (q++[p])=max (aa q) (cz zr p-1):=by simp[aa]
def px{N:Nat}:∀(q:List (List Rat)),(∀p∈q,p.length<=N)->aa q<=N:=by
 have key:∀(q:List (List Rat))(d:Nat),d<=N->(∀p∈q,p.length<=N)->q.foldl (fun d p=>max d (cz zr p-1)) d<=N:=by
  intro q
  induction q with
  | nil=>intro d h _;exact h
  | cons p q ih=>
    intro d h hp;have:=iI (z:=zr) p;have:=hp p List.mem_cons_self;exact ih _ (show max d (cz zr p-1)<=N by omega) fun r hr=>hp r (List.mem_cons_of_mem _ hr)
 exact fun q h=>key q 0 (bO _) h
def Nw(q:List (List Rat))(m:Nat)(lead:Rat)(hq:∀p∈q,p.length<1099511627776)(hql:q.length<1099511627776:=by omega)(hm:m<1099511627776:=by omega):aL prog 204 [(yZ q m lead:aG)] (.ret [.one (.int .i64 ((m+aa q:Nat):Int))]):=by
 refine bw func204 WY ?_;apply vn (aU Pv (aR _));refine ao {i:Nat // i<=q.length} (fun g=>[.one (.int .i64 ((aa (q.take g.1):Nat):Int)),.one (.int .i64 g.1)]) (fun g=>q.length-g.1) ⟨0,bO _⟩ aQ.rfl (fun _=>rfl) ?_;rintro⟨i,hi⟩;dsimp only[aO,aP]at hi|-;have hd:=px (N:=1099511627776) (q.take i) fun p hp=>kR (hq p (List.mem_of_mem_take hp));apply vn ak;refine vs _ rfl ?_ ?_<;>intro h3
 ·obtain⟨p,hp⟩:∃p,q[i]?=some p:=⟨_,ay O⟩
  have hpl:=hq p (bc hp);apply vn (aZ Pv hp);apply vn (av Ov);apply aA (ye p hpl);apply vn ai2;apply vn aC;dsimp only[aO,aP]
  have e:max ((aa (q.take i):Nat):Int) ((cz zr p:Int)-1)=((aa (q.take (i+1)):Nat):Int):=by
   rw[List.take_add_one,hp,Option.toList_some,zJ];omega
  exact aW rfl ⟨⟨i+1,O⟩,aQ.of_eq (by rw[dY,dY,lI];dsimp only;rw[<-e];rfl),by show q.length-(i+1)<q.length-i;omega⟩
 rw[show i=q.length by omega,List.take_length]at hd|-;apply vn aC;dsimp only[aO,aP];rw[show((m+aa q:Nat):Int)=(m:Int)+(aa q:Int) by omega];exact aK
def QJ{α:Type}{l:List α}{i:Nat}{x:α}(h:l[i]?=some x):l.take i++[x]=l.take (i+1):=by
 rw[List.take_add_one,h];rfl
def aF(e:List (List Rat))(c:Rat):Rat:=(di (e.getD (e.length-1) []) c).getD 0 0
def bC8(e:List (List Rat))(c:Rat)(D E S T K B:Nat)(h0:D≠0)(h1:E≠0)(hp:∀p∈e,(∀a∈p,Bd D S a)/\p.length<=K)(hc:Bd E T c)(hT:1<=T)(hK:K<=1073741824)(hB:B<=8589934592)(hX:pk D E S T K<2^B)(he:0<e.length)(hel:e.length<1099511627776)(hne:di (e.getD (e.length-1) []) c≠[]):aL prog 100 [(.one (eQ e):aG),(qT c:aG)] (.ret [yZ (e.map (di · c)) (e.length-1) (aF e c)]):=by
 refine bw func100 bA7 ?_;have e1:(e.length:Int)-1=((e.length-1:Nat):Int):=O
 apply vn (aU AH (aR _));apply vn aJ;rw[e1];apply vn (aU AH (aR _));refine ao {i:Nat // i<=e.length} (fun g=>[.one (.int .i64 g.1),.rows ((e.take g.1).map fun p=>cQ (di p c)),.one (.int .i64 ((e.length-1:Nat):Int)),.one (.exact (.slice none 0 0)),.one (.bool false),.one (.exact (.slice none 0 0))]) (fun g=>e.length-g.1) ⟨0,bO _⟩ aQ.rfl (fun _=>rfl) ?_;rintro⟨i,hi⟩;dsimp only[aO,aP]at hi|-;apply vn ak;refine vs _ rfl ?_ ?_<;>intro h5
 ·obtain⟨p,hpi⟩:∃p,e[i]?=some p:=⟨_,ay O⟩
  obtain⟨hpb,hpk⟩:=hp p (bc hpi);have hti:(e.take i).length<=i:=by rw[List.length_take];omega
  apply vn (aZ AH hpi);apply vn (av Ov);apply aA (Xk p c D E S T K B h0 h1 hpb hc hT hpk hK hB hX);apply bF (us:=[cQ (di p c)]);refine oH (xs:=e.take i) (x:=p) (f:=fun p=>cQ (di p c)) rfl rfl O (by simp only[maxLen];omega) ?_;rw[QJ hpi];apply vn aC;dsimp only[aO,aP];exact aW rfl ⟨⟨i+1,O⟩,aQ.rfl,by show e.length-(i+1)<e.length-i;omega⟩
 have hie:i=e.length:=O
 subst hie;rw[List.take_length];obtain⟨p,hpi⟩:∃p,e[e.length-1]?=some p:=⟨_,ay O⟩
 have hgd:e.getD (e.length-1) []=p:=by rw[cu,hpi];rfl
 rw[hgd]at hne;have hlen:0<(di p c).length:=List.length_pos_iff.2 hne;refine cy rfl rfl O (by first | omega | (rw[List.length_set];omega)) ?_;refine pr rfl rfl O (cS _) hpi rfl ?_;apply vn (aZ jq (bX (l:=di p c) hlen) rfl);apply vn (bB ov (by decide) (by simp) (.inl rfl));dsimp only[aO,aP];rw[show aF e c=(di p c).getD 0 0 by rw[aF,hgd],show(e.map fun p=>cQ (di p c))=(e.map (di · c)).map cQ by rw[eU];rfl];exact aK
def bA0(k:Nat)(hk:k<=256):aL prog 256 [(.one (.int .i64 k):aG)] (.ret [mT (2^k)]):=by
 refine bw func256 aN4 ?_;apply aA (im 2);apply aA (Nf k 256);rw[show max (0:Int) (min (k:Int) 256)=(k:Int) by omega];apply aA (Tt 2 k 2);exact aK
def yt(k:Nat)(hk:k<=256:=by omega):aL prog 202 [(.one (.int .i64 k):aG)] (.ret [qT (mkRat 1 (2^k))]):=by
 refine bw func202 Xu ?_;apply aA (JA 1);apply aA (bA0 k hk)
 apply aA (xM 1 (2^k) (Nat.pow_pos O) (by
  obtain⟨H,hH⟩:∃H,H=257:=⟨_,rfl⟩
  have h1:(dg (2^k)).length<=H:=fi (mP O O);have h2:(dg (1:Int).natAbs).length=1:=by rw[show(1:Int).natAbs=1 from rfl,pE];rfl
  omega)) rfl
 exact aK
end Go.Sy
