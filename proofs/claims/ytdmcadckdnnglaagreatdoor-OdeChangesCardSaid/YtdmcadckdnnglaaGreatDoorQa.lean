/- Part. -/
import Derived.Test.YtdmcadckdnnglaaGreatDoorOa
set_option linter.all false
set_option maxHeartbeats 1000000
namespace Ord
def ev(p:j1)(x:Rat):Rat:=p.foldr (fun a v=>v*x+a) 0
def dV(x:Rat):ev [] x=0:=rfl
def av(a:Rat)(p:j1)(x:Rat):ev (a::p) x=ev p x*x+a:=rfl
def Ol(p q:j1)(x:Rat):ev (p++q) x=ev p x+x^p.length*ev q x:=by
 induction p with
 | nil=>simp only[List.nil_append,dV,ck];grind
 | cons a p ih=>simp only[List.cons_append,av,ih,bm,bE];grind
def bR2(p:j1)(i:Nat)(a b x:Rat)(h:p[i]?=some a):ev (p.set i b) x=ev p x+(b-a)*x^i:=by
 induction p generalizing i with
 | nil=>simp at h
 | cons c p ih=>
   cases i with
   | zero=>
     simp only[nL,Bh]at h;subst h;simp only[AG,av,bQ];grind
   | succ i=>
     simp only[wz]at h;simp only[AD,av,ih i h,bE];grind
def Wu(n:Nat)(x:Rat):ev (List.replicate n 0) x=0:=by
 induction n with
 | zero=>rfl
 | succ n ih=>rw[nw,av,ih];grind
def mO{p:j1}{i:Nat}{a:Rat}(h:p[i]?=some a)(x:Rat):ev (p.take (i+1)) x=ev (p.take i) x+a*x^i:=by
 have hi:i<p.length:=(AI.1 h).1;rw[nm,h,Option.toList_some,Ol,bP,ek O,av,dV];grind
def YK(k:Rat)(p:j1)(x:Rat):ev (p.map (· * k)) x=ev p x*k:=by
 induction p with
 | nil=>rw[jD,dV];grind
 | cons a p ih=>rw[dy,av,av,ih];grind
def syn(c:Rat):List Rat->List Rat
 | []=>[]
 | [_]=>[]
 | _::b::p=>ev (b::p) c::syn c (b::p)
theorem Ia(c:Rat):∀p:List Rat,(syn c p).length=p.length-1
 | []=>rfl
 | [_]=>rfl
 | _::b::p=>by
   have:=Ia c (b::p);simp only[bm]at this;simp only[syn,bm,this];omega
theorem aO6(c x:Rat):∀p:List Rat,ev p x=ev p c+(x-c)*ev (syn c p) x
 | []=>by simp only[dV,syn];grind
 | [a]=>by simp only[av,dV,syn];grind
 | a::b::p=>by
   have ih:=aO6 c x (b::p);rw[av a (b::p) x,av a (b::p) c,syn,av (ev (b::p) c)];generalize ev (b::p) x=u at *;generalize ev (b::p) c=v at *;generalize ev (syn c (b::p)) x=t at *;subst ih
   grind
theorem Vu(c:Rat):∀p:List Rat,ev p c=0->(∀a∈syn c p,a=0)->∀a∈p,a=0
 | [],_,_=>bY
 | [a],h,_=>by
   rw[av,dV]at h;intro x hx;simp only[eo]at hx;subst hx;grind
 | a::b::p,h,hs=>by
   rw[syn]at hs;have h1:ev (b::p) c=0:=hs _ gG;have ih:=Vu c (b::p) h1 fun y hy=>hs y (fj _ hy);rw[av,h1]at h;intro x hx;rcases ee.1 hx with rfl | hx
   .grind
   .exact ih x hx
theorem xP:∀(n:Nat)(p:j1),p.length<=n->(∀i:Nat,i<n->ev p (i:Rat)=0)->∀a∈p,a=0
 | 0,p,hl,_=>by
   have:p=[]:=ij O;subst this;simp
 | n+1,p,hl,h=>by
   have h0:=h n O;refine Vu _ p h0 (xP n (syn (n:Rat) p) (by rw[Ia];omega) fun i hi=>?_);have h1:=h i O;rw[aO6 (n:Rat) i p,h0]at h1
   have h2:((i:Rat)-(n:Rat))≠0:=by
    intro e;have e2:(i:Rat)=(n:Rat):=e9
    have:=Rat.natCast_inj.1 e2;omega
   have h3:((i:Rat)-(n:Rat))*ev (syn (n:Rat) p) i=0:=e9
   rcases nk.1 h3 with h4 | h4
   .exact(h2 h4).elim
   .exact h4
def dif:List Rat->List Rat->List Rat
 | [],q=>q.map (fun a=>-a)
 | a::p,[]=>a::p
 | a::p,b::q=>(a-b)::dif p q
theorem aN7:∀(p q:j1)(x:Rat),ev (dif p q) x=ev p x-ev q x
 | [],q,x=>by
   rw[dif,dV]
   induction q with
   | nil=>rw[jD,dV];grind
   | cons b q ih=>rw[dy,av,av,ih];grind
 | a::p,[],x=>by rw[dif,dV];grind
 | a::p,b::q,x=>by rw[dif,av,av,av,aN7 p q x];grind
def uz(p:j1):Prop:=∀a,p.getLast? = some a->a≠0
def uz.tail{a:Rat}{p:j1}(h:uz (a::p)):uz p:=fun b hb=>h b (by
 cases p with
 | nil=>cases hb
 | cons c p=>rw[Zl];exact hb)
def KW{p:j1}(h:uz p)(h0:∀a∈p,a=0):p=[]:=by
 cases hp:p.getLast? with
 | none=>exact ah2.1 hp
 | some a=>exact(h a hp (h0 a (List.mem_of_getLast? hp))).elim
theorem Ud:∀{p q:j1},uz p->uz q->(∀a∈dif p q,a=0)->p=q
 | [],q,_,hq,h=>by
   rw[dif]at h;refine(KW hq fun a ha=>?_).symm;have:=h (-a) (List.mem_map.2 ⟨a,ha,rfl⟩)
   grind
 | a::p,[],hp,_,h=>KW hp h
 | a::p,b::q,hp,hq,h=>by
   rw[dif]at h;have h1:=h _ gG;have h2:=Ud hp.tail hq.tail fun x hx=>h x (fj _ hx);rw[h2,show a=b by grind]
def aS5{p q:j1}(hp:uz p)(hq:uz q)(h:∀x,ev p x=ev q x):p=q:=
 Ud hp hq (xP _ _ (jI _) fun i _=>by rw[aN7,h];grind)
end Ord
namespace Ord
def Bd(D S:Nat)(q:Rat):Prop:=q.den∣D/\q.num.natAbs<=S*q.den
def Bd.zero{D S:Nat}:Bd D S 0:=⟨⟨D,bY⟩,bY⟩
def Bd.one{D S:Nat}(h:1<=S):Bd D S 1:=⟨⟨D,bY⟩,by simpa using h⟩
def Bd.int{D S:Nat}{n:Int}(h:n.natAbs<=S):Bd D S (n:Rat):=⟨⟨D,bY⟩,by simpa using h⟩
def Bd.mono{D S E T:Nat}{q:Rat}(h:Bd D S q)(hD:D∣E)(hS:S<=T):Bd E T q:=
 ⟨Ba h.1 hD,an h.2 (cg _ hS)⟩
def Bd.le{D S T:Nat}{q:Rat}(h:Bd D S q)(hS:S<=T):Bd D T q:=h.mono (pJ _) hS
def Bd.neg{D S:Nat}{q:Rat}(h:Bd D S q):Bd D S (-q):=⟨h.1,by show(-q.num).natAbs<=S*q.den;rw[iC];exact h.2⟩
def Bd.mk{D S:Nat}{n:Int}(h0:D≠0)(h:n.natAbs<=S*D):Bd D S (mkRat n D):=by
 rw[<-Fv h0,Gi h0];show D/n.natAbs.gcd D∣D/\(n/((n.natAbs.gcd D:Nat):Int)).natAbs<=S*(D/n.natAbs.gcd D);have hg:0<n.natAbs.gcd D:=An _ O;have hd:=Nat.gcd_dvd_right n.natAbs D;have hn:=RY n.natAbs D;generalize n.natAbs.gcd D=g at *;obtain⟨d',rfl⟩:=hd;obtain⟨k,hk⟩:=Sr.2 hn;subst hk
 constructor
 .rw[af3 _ hg];exact rV _ _
 .rw[af3 _ hg,QP _ O];rw[dx,cH,ns]at h;exact Nat.le_of_mul_le_mul_left h hg
def Bd.ex{D S:Nat}{q:Rat}(h:Bd D S q)(h0:D≠0):∃n:Int,q=mkRat n D/\n.natAbs<=S*D:=by
 obtain⟨⟨k,rfl⟩,h2⟩:=h;have hk:k≠0:=fun e=>h0 (by rw[e,fu]);refine⟨q.num*k,?_,?_⟩
 .rw[cD q.den k,xZ,Rat.mkRat_mul_left hk,Rat.mkRat_self]
 .rw[dx,cH,<-dC];exact cg _ h2
def Bd.add{D S T:Nat}{a b:Rat}(h0:D≠0)(ha:Bd D S a)(hb:Bd D T b):Bd D (S+T) (a+b):=by
 obtain⟨m,rfl,hm⟩:=ha.ex h0;obtain⟨n,rfl,hn⟩:=hb.ex h0
 have e:mkRat m D+mkRat n D=mkRat (m+n) D:=by
  rw[Rat.mkRat_add_mkRat m n h0 h0,<-Fp,Rat.mkRat_mul_right h0]
 rw[e];refine Bd.mk h0 (an (FG _ _) ?_);rw[ba];exact Sa hm hn
def Bd.sub{D S T:Nat}{a b:Rat}(h0:D≠0)(ha:Bd D S a)(hb:Bd D T b):Bd D (S+T) (a-b):=by
 rw[AJ];exact ha.add h0 hb.neg
def Bd.mul{D E S T:Nat}{a b:Rat}(h0:D≠0)(h1:E≠0)(ha:Bd D S a)(hb:Bd E T b):Bd (D*E) (S*T) (a*b):=by
 obtain⟨m,rfl,hm⟩:=ha.ex h0;obtain⟨n,rfl,hn⟩:=hb.ex h1;rw[Sz];refine Bd.mk (da h0 h1) ?_;rw[dx];have:=dE hm hn;rw[Nat.mul_mul_mul_comm]at this;exact this
def Bd.fit{D S B:Nat}{q:Rat}(h:Bd D S q)(h0:D≠0)(h1:D<2^B)(h2:S*D<2^B):Fit B q:=by
 have hd:=uZ O h.1;exact⟨cV (an h.2 (cd _ hd)) h2,cV hd h1⟩
end Ord
namespace Ord
def jw(a:Rat)(q:j1)(i:Nat)(out:j1):Nat->List Rat
 | 0=>out
 | k+1=>(jw a q i out k).set (i+k) ((jw a q i out k).getD (i+k) 0+a*q.getD k 0)
def mulL(p q:j1):Nat->List Rat
 | 0=>List.replicate (p.length+q.length-1) 0
 | i+1=>if p.getD i 0=0 then mulL p q i else jw (p.getD i 0) q i (mulL p q i) q.length
theorem nx(a:Rat)(q:j1)(i:Nat)(out:j1):∀k,(jw a q i out k).length=out.length
 | 0=>rfl
 | k+1=>by rw[jw,cI,nx a q i out k]
theorem lr(p q:j1):∀i,(mulL p q i).length=p.length+q.length-1
 | 0=>by rw[mulL,lH]
 | i+1=>by
   rw[mulL];split
   .exact lr p q i
   .rw[nx,lr p q i]
def cS{l:j1}{i:Nat}(h:i<l.length:=by omega):l[i]?=some (l.getD i 0):=by
 rw[kB,ab6 h];rfl
theorem qM(x:Rat)(i:Nat):∀k:Nat,x^(i+k)=x^i*x^k
 | 0=>by rw[cu,bQ];grind
 | k+1=>by rw[<-jF,bE,qM x i k,bE];grind
theorem Ou(a:Rat)(q:j1)(i:Nat)(out:j1)(x:Rat)(hl:i+q.length<=out.length):∀k,k<=q.length->ev (jw a q i out k) x=ev out x+a*x^i*ev (q.take k) x
 | 0,_=>by rw[jw,kR,dV];grind
 | k+1,hk=>by
   have hget:=cS (l:=jw a q i out k) (i:=i+k) (by rw[nx];omega);rw[jw,bR2 _ _ _ _ x hget,Ou a q i out x hl k O,mO (cS (l:=q)) x,qM]
   grind
theorem ZZ(p q:j1)(x:Rat)(hq:0<q.length):∀i,i<=p.length->ev (mulL p q i) x=ev (p.take i) x*ev q x
 | 0,_=>by rw[mulL,Wu,kR,dV];grind
 | i+1,hi=>by
   have ih:=ZZ p q x hq i O;rw[mulL,mO (cS (l:=p)) x];split
   .rename_i h0;rw[ih,h0];grind
   .rw[Ou _ _ _ _ x (by rw[lr];omega) _ (jI _),ih,eW];grind
def lI{D S:Nat}{l:j1}(h:∀a∈l,Bd D S a)(i:Nat):Bd D S (l.getD i 0):=by
 rw[kB];cases hi:l[i]? with
 | none=>exact Bd.zero
 | some a=>exact h a (pL hi)
def cw3(D S T:Nat)(i k:Nat)(l:j1):Prop:=∀j a,l[j]?=some a->Bd D (if i<=j/\j<i+k then S+T else S) a
theorem PE{D E S T U:Nat}(h0:D≠0)(h1:E≠0){a:Rat}{q:j1}(ha:Bd D S a)(hq:∀b∈q,Bd E T b){i:Nat}{out:j1}(ho:∀x∈out,Bd (D*E) U x):∀k,cw3 (D*E) U (S*T) i k (jw a q i out k)
 | 0=>fun j x hx=>by
   rw[aD O];exact ho x (pL hx)
 | k+1=>fun j x hx=>by
   have ih:=PE h0 h1 ha hq ho k (i:=i);rw[jw,Fs]at hx;split at hx
   .rename_i e;subst e;split at hx
    .rename_i hlt;simp only[Bh]at hx;subst hx;rw[aI O];refine Bd.add (da h0 h1) ?_ (ha.mul h0 h1 (lI hq k));have:=ih (i+k) _ (cS hlt);rw[aD O]at this;exact this
    .cases hx
   .have:=ih j x hx;refine this.le ?_;by_cases h2:i<=j/\j<i+k
    .rw[aI h2,aI O];exact jI _
    .rw[aD h2];split
     .exact uu _ _
     .exact jI _
def Jf{D E S T U:Nat}(h0:D≠0)(h1:E≠0){a:Rat}{q:j1}(ha:Bd D S a)(hq:∀b∈q,Bd E T b){i:Nat}{out:j1}(ho:∀x∈out,Bd (D*E) U x)(k:Nat):∀x∈jw a q i out k,Bd (D*E) (U+S*T) x:=fun x hx=>by
 obtain⟨j,hj⟩:=EY.1 hx;refine(PE h0 h1 ha hq ho k j x hj).le ?_;split
 .exact jI _
 .exact uu _ _
theorem Fx{D E S T:Nat}(h0:D≠0)(h1:E≠0){p q:j1}(hp:∀a∈p,Bd D S a)(hq:∀b∈q,Bd E T b):∀i,∀x∈mulL p q i,Bd (D*E) (i*(S*T)) x
 | 0=>fun x hx=>by
   rw[mulL]at hx;obtain⟨_,rfl⟩:=pC.1 hx;exact Bd.zero
 | i+1=>fun x hx=>by
   rw[mulL]at hx;rw[ba,cZ];split at hx
   .exact(Fx h0 h1 hp hq i x hx).le (uu _ _)
   .exact Jf h0 h1 (lI hp i) hq (Fx h0 h1 hp hq i) _ x hx
def Uu{D E S T B n:Nat}(h0:D≠0)(h1:E≠0)(hX:D*E*((n+1)*((S+1)*(T+1)))<2^B) :
  (∀a,Bd D S a->Fit B a)/\(∀b,Bd E T b->Fit B b)/\(∀c(i:Nat),i<n->Bd (D*E) (i*(S*T)+S*T) c->Fit B c)/\(∀c,Bd (D*E) (S*T) c->Fit B c):=by
 have hD:0<D:=iR h0;have hE:0<E:=iR h1;have hDE:0<D*E:=dN hD hE
 have key:∀X,X<=(n+1)*((S+1)*(T+1))->X*(D*E)<2^B:=fun X h=>by
  refine cV ?_ hX;rw[cD];exact cd _ h
 have hST:(S+1)*(T+1)=S*T+S+T+1:=by rw[ba,fO];omega
 have hge:(S+1)*(T+1)<=(n+1)*((S+1)*(T+1)):=jh _ O;have k1:=key 1 O;have kS:=key S O;have kT:=key T O;have kST:=key (S*T) O;have hDle:D<=D*E:=dn _ hE;have hEle:E<=D*E:=jh _ hD;refine⟨fun a ha=>ha.fit h0 O (cV (cd _ hDle) kS),fun b hb=>hb.fit h1 O (cV (cd _ hEle) kT),fun c i hi hc=>?_,fun c hc=>hc.fit O O kST⟩;refine hc.fit O O (key _ ?_);have e:i*(S*T)+S*T=(i+1)*(S*T):=by rw[ba,cZ]
 rw[e];exact dE O O
end Ord
namespace Go.Sy
open Go Go.Proofs Tryz Ord
def bH9:Tr:=dW 4 3 0 3 11 10 0 (aJ 6 0 (.need (.callv (.u 1 0) [W 4 0] [some 3]) (.call ⟨.value (tT 16),#[tT 17],#[3]⟩) 39 true (eV 5 4 72 14 15 (OO 5 4 7 19 18 (bX 4 1 3 11 (mL 0 9 8))))) (mz 34 3 5 21 72 72 (cC 7)))
def cc1:Tr:=ag5 0 72 7 (yS 2 9 72 (Sb 0 2 bH9))
def bf1:aO prog f107 cT [.v none,.v none]=cc1:=aT
def aV6:Tr:=iz 5 5 1 5 2
def bT1:Tr:=bD 0 0 6 72 (dW 1 2 0 3 5 7 4 (aJ 3 0 (jL 0 0 1 0 72 9 10 (dK 4 3 39 11 aV6)) (.ret [.agg [tN,tE (.bool false),tN]])))
def co3:aO prog f109 cT [.v none,.v none]=bT1:=aT
def bV2:Tr:=Om 109 1 0 3 5 6 72 3 39 (OM 109 2 0 0 3 8 9 72 3 39 (lZ 64 3 0 3 1 3 2 4 0 4 1 4 2 7 10 aV6))
def aT0:aO prog f108 cT [.v none,.ref 1,.ref 1]=bV2:=aT
def Wl:Tr:=cC 5
def bE8:Tr:=bD 0 0 5 72 (bD 1 0 7 72 (aC6 3 6 8 (eO 107 [W 4 0,.one (.lp 108 [.ref 0 [.u 0 0],.ref 0 [.u 1 0]])] [none] [9,10] [3,177] 72 true Wl)))
def bN4:aO prog f30 cT [.v none,.v none]=bE8:=aT
def aO8:Tr:=hx305Q 
def bg8:Tr:=RB 21 26 3 39 50 (lZ 36 16 0 16 1 16 2 24 0 24 1 24 2 52 53 (lZ 64 27 0 27 1 27 2 28 0 28 1 28 2 51 54 (eV 21 25 72 42 45 (OO 21 25 29 56 55 (bX 20 1 3 37 (mL 1 31 30))))))
def bm6:Tr:=dW 20 19 0 3 37 36 0 (aJ 22 0 (jL 1 0 20 0 72 35 37 (dK 23 3 39 40 (dh 12 0 20 0 3 43 44 (dh 12 0 20 0 3 47 48 (eV 21 26 72 46 49 bg8))))) (bX 12 1 3 27 (mL 0 23 21)))
def bu8:Tr:=jL 0 0 12 0 72 25 27 (dK 15 3 39 30 (vD 35 16 0 1 2 32 39 3 (gd 17 0 0 3 33 (aJ 18 0 (bX 12 1 3 27 (mL 0 19 13)) (bD 1 0 35 72 (Sb 1 13 bm6))))))
def bj8:Tr:=ag5 9 72 23 (bD 0 0 25 72 (Sb 0 10 (dW 12 11 0 3 27 26 0 (aJ 14 0 bu8 (mz 34 3 13 59 72 72 (cC 15))))))
def cg3:Tr:=bD 1 0 14 72 (gd 4 0 0 3 15 (aJ 5 0 aO8 (bD 0 0 18 72 (bD 1 0 20 72 (dh 6 0 7 0 3 19 21 (iJ 8 1 22 bj8))))))
def bD6:Tr:=bD 0 0 10 72 (gd 2 0 0 3 11 (aJ 3 0 aO8 cg3))
def bD4:aO prog f32 cT [.v none,.v none]=bD6:=aT
def cc9:Tr:=og 68 1 3 2 39 (ZN 0 1 72 3 4 (yU 3 2))
def bq8:aO prog f111 cT [.v (some 3)]=cc9:=aT
def aJ0:Tr:=cC 2
def cd9:Tr:=Qr 0 72 3 (mz 34 3 1 4 72 72 aJ0)
def SO:aO prog f190 cT [.v (some 3)]=cd9:=aT
def ap8(n:Nat):au (au aE.Sub) (List.replicate n [.exact (.slice none 0 0),.bool false,.exact (.slice none 0 0)]) (rQ (List.replicate n 0)):=by
 induction n with
 | zero=>trivial
 | succ n ih=>rw[nw,nw];exact⟨fg,ih⟩
def aJ4(n:Nat):aF.Sub (.rows (List.replicate n [.exact (.slice none 0 0),.bool false,.exact (.slice none 0 0)])) (.rows (rQ (List.replicate n 0))):=ap8 n
def part(f:j4)(n i:Nat):List Rat:=(List.range i).map f++List.replicate (n-i) 0
def Vg{f:j4}{n i:Nat}(h:i<=n):(part f n i).length=n:=by simp[part];omega
def Ur{f:j4}{n i:Nat}(h:i<n):(part f n i).set i (f i)=part f n (i+1):=by
 rw[part,part,ml,ep,List.set_append_right _ _ bY];rw[show n-i=(n-(i+1))+1 by omega,nw];simp
def bt6(n:Nat)(g:Nat)(caps:List aE)(f:j4)(hf:∀i,i<n->aK prog g (.one (.int .i64 (i:Int))::caps.map .one) (.ret [qT (f i)]))(hn:n<1099511627776):aK prog 107 [(.one (.int .i64 n):aF),(.one (.lp g caps):aF)] (.ret [.one (sQ (trim ((List.range n).map f)))]):=by
 refine dB func107 bf1 ?_;refine vz (n:=n) (m:=n) rfl rfl rfl (ah _) O (by simp only[maxLen];omega) ?_;refine WT rfl (lH) ?_;refine bC {i:Nat // i<=n} (fun g=>[.one (.int .i64 g.1),.rows (rQ (part f n g.1))]) (fun g=>n-g.1) ⟨0,cG _⟩ ⟨aF.Sub.same,aJ4 n,trivial⟩ (fun _=>rfl) ?_;rintro⟨i,hi⟩;dsimp only[aP,aQ]at hi|-;have hpl:=Vg (f:=f) hi;refine uS az ?_ ?_<;>intro h4
 .apply wD (f:=g) (caps:=caps) rfl (hf i O) rfl;refine dz rfl rfl O D6 ?_;obtain⟨q,hq⟩:∃q,(part f n i)[i]?=some q:=⟨_,bU O⟩
  refine qA (f:=qC) (d':=f i) rfl rfl O (bV i) hq rfl ?_;rw[Ur O];apply vn aC;dsimp only[aP,aQ];exact aa rfl ⟨⟨i+1,O⟩,aR.rfl,by show n-(i+1)<n-i;omega⟩
 have hin:i=n:=O
 subst hin;rw[show part f i i=(List.range i).map f by simp[part]];apply aA (BA ((List.range i).map f) (by rw[aX,pT];omega)) rfl;exact aN
def bA0(p:j1)(i:Nat)(hi:i<4611686018427387904):aK prog 109 [(.one (sQ p):aF),(.one (.int .i64 i):aF)] (.ret [qT (p.getD i 0)]):=by
 refine dB func109 co3 ?_;apply vn (aZ mh (aX _));refine uS az ?_ ?_<;>intro h2
 .have hlt:i<p.length:=O
  apply vn (aY mh (cS hlt) (bV i));apply vn (ay mq dO bY (.inl rfl));exact aN
 rw[show p.getD i 0=0 by rw[dp,gE O];rfl];exact eD ⟨fg,trivial⟩
def qJ{A:Nat}{l:j1}(h:∀a∈l,Fit A a)(i:Nat)(hA:1<=A:=by omega):Fit A (l.getD i 0):=by
 rw[dp];cases hi:l[i]? with
 | none=>exact Fit.zero hA
 | some a=>exact h a (cj hi)
def aN0(p q:j1)(i A B:Nat)(hA:1<=A)(hB:1<=B)(hp:∀a∈p,Fit A a)(hq:∀b∈q,Fit B b)(h:A+B<=34359738368)(hi:i<4611686018427387904:=by omega):aK prog 108 [(.one (.int .i64 i):aF),(.one (.aW ([sQ p])):aF),(.one (.aW ([sQ q])):aF)] (.ret [qT (p.getD i 0+q.getD i 0)]):=by
 refine dvr (ins:=[.v (.one (.int .i64 i)),.ref ([sQ p]),.ref ([sQ q])]) func108 aT0 ?_;apply aA (bA0 p i hi);apply aA (bA0 q i hi);apply aA (lU _ _ A B (qJ hp i hA) (qJ hq i hB) h);exact aN
def Rf(p q:j1):List Rat:=trim ((List.range (max p.length q.length)).map fun i=>p.getD i 0+q.getD i 0)
def bS3(p q:j1)(A B:Nat)(hA:1<=A)(hB:1<=B)(hp:∀a∈p,Fit A a)(hq:∀b∈q,Fit B b)(hpl:p.length<1099511627776)(hql:q.length<1099511627776)(h:A+B<=34359738368:=by omega):aK prog 30 [(.one (sQ p):aF),(.one (sQ q):aF)] (.ret [.one (sQ (Rf p q))]):=by
 refine dB func30 bN4 ?_;apply vn (aZ mh (aX _));apply vn (aZ mh (aX _));apply vn (aU3 (k:=.i64) (a:=(p.length:Int)) (b:=(q.length:Int)));rw[show max (p.length:Int) (q.length:Int)=((max p.length q.length:Nat):Int) by omega];apply aA (bt6 (max p.length q.length) 108 [.aW [sQ p],.aW [sQ q]] (fun i=>p.getD i 0+q.getD i 0) (fun i hi=>aN0 p q i A B hA hB hp hq h) O);exact aN
def xq(p q:j1):List Rat:=if p=[]\/q=[]then[]else trim (mulL p q p.length)
def bW3(p q:j1)(D E S T B:Nat)(h0:D≠0)(h1:E≠0)(hp:∀a∈p,Bd D S a)(hq:∀b∈q,Bd E T b)(hB:B<=8589934592)(hX:D*E*((p.length+1)*((S+1)*(T+1)))<2^B)(hpl:p.length<=549755813888:=by omega)(hql:q.length<=549755813888:=by omega):aK prog 32 [(.one (sQ p):aF),(.one (sQ q):aF)] (.ret [.one (sQ (xq p q))]):=by
 refine dB func32 bD4 ?_;obtain⟨f1,f2,f3,f4⟩:=Uu h0 h1 hX;apply vn (aZ mh (aX _));refine uS bA ?_ ?_<;>intro h2
 .have hp0:p=[]:=ij O;rw[xq,aI (.inl hp0)];exact eD ⟨aE.Sub.nil,trivial⟩
 apply vn (aZ mh (aX _));refine uS bA ?_ ?_<;>intro h6
 .have hq0:q=[]:=ij O;rw[xq,aI (.inr hq0)];exact eD ⟨aE.Sub.nil,trivial⟩
 have hp0:0<p.length:=O
 have hq0:0<q.length:=O
 rw[xq,aD (by rintro(h | h)
              .rw[h]at hp0;simp at hp0
              .rw[h]at hq0;simp at hq0)]
 obtain⟨n,hn⟩:∃n:Nat,(p.length:Int)+(q.length:Int)-1=(n:Int):=⟨p.length+q.length-1,O⟩
 have hn':p.length+q.length-1=n:=O
 apply vn (aZ mh (aX _));apply vn (aZ mh (aX _));apply vn aC;apply vn aL;rw[hn];dsimp only[aP,aQ];refine vz (n:=n) (m:=n) rfl rfl rfl (ah _) O (by simp only[maxLen];omega) ?_;apply vn (aZ mh (aX _));dsimp only[aP,aQ];refine bC {i:Nat // i<=p.length} (fun g=>[.one (.int .i64 g.1),.rows (rQ (mulL p q g.1))]) (fun g=>p.length-g.1) ⟨0,cG _⟩ ⟨aF.Sub.same,by show aF.Sub _ (.rows (rQ (mulL p q 0)));rw[mulL,hn'];exact aJ4 n,trivial⟩ (fun _=>rfl) ?_;rintro⟨i,hi⟩;dsimp only[aP,aQ]at hi|-;refine uS az ?_ ?_<;>intro h16
 .apply vn (aY mh (cS (show i<p.length by omega)) (bV i));apply vn (ay mq dO bY (.inl rfl));apply aA (gQ _);refine uS bA ?_ ?_<;>intro h21
  .have hz:p.getD i 0=0:=sign_zero.1 h21;apply vn aC;dsimp only[aP,aQ];exact aa rfl ⟨⟨i+1,O⟩,(by dsimp only;rw[mulL,aI hz];exact aR.rfl),by show p.length-(i+1)<p.length-i;omega⟩
  have hz:¬p.getD i 0=0:=fun h=>h21 (sign_zero.2 h);have ho:=Fx h0 h1 hp hq i;have hi2:i<p.length:=O
  apply vn (aZ mh (aX _));refine bC {k:Nat // k<=q.length} (fun g=>[.one (.int .i64 g.1),.rows (rQ (jw (p.getD i 0) q i (mulL p q i) g.1))]) (fun g=>q.length-g.1) ⟨0,cG _⟩ aR.rfl (fun _=>rfl) ?_;rintro⟨k,hk⟩;dsimp only[aP,aQ]at hk|-;refine uS az ?_ ?_<;>intro h27
  .have hk2:k<q.length:=O
   have hrow:=Jf h0 h1 (lI hp i) hq ho k (i:=i);have hrl:(jw (p.getD i 0) q i (mulL p q i) k).length=n:=by rw[nx,lr,hn']
   have hget:=cS (l:=jw (p.getD i 0) q i (mulL p q i) k) (i:=i+k);have hfo:Fit B ((jw (p.getD i 0) q i (mulL p q i) k).getD (i+k) 0):=f3 _ i hi2 (hrow _ (cj hget));apply vn (aY mh (cS hk2) (bV k));apply vn (ay mq dO bY (.inl rfl));apply vn aC;apply vn aC;refine dz rfl rfl O O ?_;refine ar6 rfl rfl O (show((i:Int)+(k:Int)).toNat=i+k by omega) hget (.inl rfl) rfl ?_;dsimp only[aP,aQ,SG,List.drop,List.take];apply aA (cr _ _ B B (f1 _ (lI hp i)) (f2 _ (lI hq k)));apply aA (lU _ _ B B hfo (f4 _ ((lI hp i).mul h0 h1 (lI hq k))));refine dz rfl rfl O O ?_;refine qA (f:=qC) (d':=(jw (p.getD i 0) q i (mulL p q i) k).getD (i+k) 0+p.getD i 0*q.getD k 0) rfl rfl O (show((i:Int)+(k:Int)).toNat=i+k by omega) hget rfl ?_;apply vn aC;dsimp only[aP,aQ];exact aa rfl ⟨⟨k+1,O⟩,aR.rfl,by show q.length-(k+1)<q.length-k;omega⟩
  apply vn aC
  exact aa rfl ⟨⟨i+1,O⟩,(by
   dsimp only;rw[mulL,aD hz,show q.length=k by omega];exact aR.rfl),by show p.length-(i+1)<p.length-i;omega⟩
 rw[show p.length=i by omega];apply aA (BA _ (by rw[lr];omega)) rfl;exact aN
def bu9(c:Rat):aK prog 111 [(qT c:aF)] (.ret [.one (sQ [c,1])]):=by
 refine dB func111 bq8 ?_;apply aA (ph 1);apply bh rfl;exact aN
def Uc(c:Rat):aK prog 190 [(qT c:aF)] (.ret [.one (sQ (trim [c]))]):=by
 refine dB func190 SO ?_;apply bh rfl;apply aA (BA [c] bY);exact aN
open Go Go.Proofs Go.RowKit Go.Shelf Tryz Ord
attribute [local go_sem] Oper.semAt_some
section
variable(M:j2)(w:World)(Pq:k9)
structure PV where
 q:Rat
 u0:Value
 u1:Value
 u2:Value
 ok:Pq q
 rep:ai M w (qC q) [u0,u1,u2]
end
def bJ6{M:j2}{w:World}{Pq:k9}{v:Value}{ps:j1}(h:(sQ ps).rep M w v)(hp:∀q∈ps,Pq q) :
  ∃(ts:List (PV M w Pq))(a:o9)(cap:Nat),v=.slice a ts.length cap/\ts.map PV.q=ps/\Sl3 PV.u0 PV.u1 PV.u2 w.heap.size w v ts:=by
 obtain⟨a,cap,rfl,hc,hm,hel⟩:=h;have hlen:(rQ ps).length=ps.length:=aX _;rcases hel with h | ⟨b,off,cs,T,fz,rfl,hb,hh,hr⟩
 .have:ps=[]:=by cases ps<;>simp_all[rQ]
  subst this;exact⟨[],a,cap,rfl,rfl,a,cap,rfl,.inl rfl⟩
 .obtain⟨ts,h1,h2⟩:=rU (fun i (x:PV M w Pq)=>ps[i]?=some x.q/\w.cell? ⟨b,off+i*3,none⟩=some x.u0/\w.cell? ⟨b,off+i*3+1,none⟩=some x.u1/\w.cell? ⟨b,off+i*3+2,none⟩=some x.u2) ps.length fun i hi=>by
   obtain⟨q,hq⟩:∃q,ps[i]?=some q:=⟨_,bU hi⟩
   obtain⟨_,hrep⟩:=hr i (qC q) (by rw[rQ,dS,hq];rfl)
   have hat:∀j,j<3->((cs.toList.drop (off+i*3)).take 3)[j]?=cs[off+i*3+j]?:=fun j hj=>by
    rw[fi,aI hj,kH];simp
   have hl:=hrep.length;generalize hus:(cs.toList.drop (off+i*3)).take 3=us at hrep hl hat
   match us,hrep with
   | [x0,x1,x2],hrep=>
     refine⟨⟨q,x0,x1,x2,hp q (cj hq),hrep⟩,hq,?_,?_,?_⟩
     .have h0:=hat 0 O;rw[cu]at h0;exact aH hh (by rw[<-h0];rfl)
     .exact aH hh (by rw[<-hat 1 O];rfl)
     .exact aH hh (by rw[<-hat 2 O];rfl)
   | [],hrep=>exact hrep.elim
   | [_],hrep=>exact hrep.2.elim
   | [_,_],hrep=>exact hrep.2.2.elim
   | _::_::_::_::_,hrep=>exact hrep.2.2.2.elim
  refine⟨ts,_,cap,by rw[hlen,h1],?_,_,cap,by rw[hlen,h1],.inr ⟨b,off,rfl,(cf.1 hh).1,fun j v hj=>(h2 j v hj).2⟩⟩;refine kd fun i=>?_;rw[dS];cases hi:ts[i]? with
  | none=>
    have:=gm.1 hi;rw[gm.2 O];rfl
  | some x=>rw[(h2 i x hi).1];rfl
def hP{M:j2}{w:World}{Pq:k9}(f:List Rat->Rat->List Rat)(pre:List (Nat×PV M w Pq)):List Rat:=pre.foldl (fun v c=>f v c.2.q) []
def bq9{M:j2}{w:World}{Pq:k9}(f:List Rat->Rat->List Rat)(pre:List (Nat×PV M w Pq))(y:Nat×PV M w Pq):hP f (pre++[y])=f (hP f pre) y.2.q:=by simp[hP]
def bK1{M:j2}{w:World}{Pq:k9}{f:List Rat->Rat->List Rat}{Inv:Nat->List Rat->Prop}(h0:Inv 0 [])(hs:∀k v c,Inv k v->Pq c->Inv (k+1) (f v c))(pre:List (Nat×PV M w Pq)):Inv pre.length (hP f pre):=by
 have key:∀(l:List (Nat×PV M w Pq))(k:Nat)(v:j1),Inv k v->Inv (k+l.length) (l.foldl (fun v c=>f v c.2.q) v):=by
  intro l
  induction l with
  | nil=>intro k v h;exact h
  | cons y l ih=>
    intro k v h;have:=ih (k+1) (f v y.2.q) (hs k v _ h y.2.ok);rw[bm,show k+(l.length+1)=k+1+l.length by omega];exact this
 have:=key pre 0 [] h0
 rwa[bw]at this
def ap7{M:j2}{w:World}{c:aE}{vs:n5}(h:cW M w [.one c] vs):∃v,pack vs=v/\c.rep M w v:=by
 match vs,h with
 | [v],h=>exact⟨v,rfl,h.1⟩
 | [],h=>exact h.elim
 | _::_::_,h=>exact h.2.elim
set_option maxRecDepth 100000 in
def Wh(M:j2)(w:World)(Pq:k9)(f:List Rat->Rat->List Rat)(Inv:Nat->List Rat->Prop)(g:FuncId)(caps:List aE)(h0:Inv 0 [])(hinv:∀k v c,Inv k v->Pq c->Inv (k+1) (f v c))
  (hM:cX M w) [Inhabited (PV M w Pq)] (a:o9) (cap:Nat) (ts:List (PV M w Pq))
  (hstep:∀k v c,k<ts.length->Inv k v->Pq c->aK prog g (.one (sQ v)::qT c::caps.map .one) (.ret [.one (sQ (f v c))]))
  (hI:Sl3 PV.u0 PV.u1 PV.u2 w.heap.size w (.slice a ts.length cap) ts) (z:Value) (hz:(sQ []).rep M w z) (cvs:n5) (hcv:ai M w caps cvs) (hlen:ts.length<4611686018427387904:=by omega) :
  CallsIn Fence.wide 1001 prog 188 #[.slice a ts.length cap,z,.func (.func g) #[] cvs.toArray] w fun e W'=>Below w.heap.size w W'/\∃u,e=.returned u/\(sQ (hP f (bk ts ts.length))).rep M W' u:=by
 refine Ae func188 rfl trivial ?_ rfl;simp only[ntmps188,ed,bm,ck,Nat.reduceAdd,Nat.reduceSub,fX,fW,fS,fU,List.nil_append,List.cons_append];generalize hL:ts.length=L at hI hlen hstep|-;obtain⟨za,zl,zc,rfl⟩:∃za zl zc,z=.slice za zl zc:=by obtain⟨za,zc,e,_⟩:=hz;exact⟨_,_,_,e⟩
 gi_wp2_with (refine⟨trivial,?_⟩;gi_at_call 248;refine(VX _ _ _ _ _).mono ?_;rintro e w' ⟨rfl,rfl⟩)
 obtain⟨n0,hn0⟩:∃n0,w.heap.size=n0:=⟨_,rfl⟩
 obtain⟨hM,hMg⟩:=hM;rw[hn0]at hI hM|-;obtain⟨W0,hW0⟩:∃W0,(((w.alloc (.cells #[.slice za zl zc] 72)).alloc (.cells #[.func (.func g) #[] cvs.toArray] 250)).alloc (.cells #[.slice a L cap] 72))=W0:=⟨_,rfl⟩
 have hs0:W0.heap.size=n0+3:=by rw[<-hW0];simp[hn0]
 have hX0:W0.heap[n0]?=some (.cells #[.slice za zl zc] 72 (0,0)):=by rw[<-hW0,bJ _ _ _ iF,bJ _ _ _ iF,<-hn0];exact bc w _
 have hS0:W0.heap[n0+1]?=some (.cells #[.func (.func g) #[] cvs.toArray] 250 (0,0)):=by
  rw[<-hW0,bJ _ _ _ iF];have:=bc (w.alloc (.cells #[.slice za zl zc] 72)) (.cells #[.func (.func g) #[] cvs.toArray] 250);rw[br,hn0]at this;exact this
 have hP0:W0.heap[n0+2]?=some (.cells #[.slice a L cap] 72 (0,0)):=by
  rw[<-hW0];have:=bc ((w.alloc (.cells #[.slice za zl zc] 72)).alloc (.cells #[.func (.func g) #[] cvs.toArray] 250)) (.cells #[.slice a L cap] 72);rw[br,br,hn0]at this;exact this
 have hB0:Below n0 w W0:=by
  rw[<-hW0];exact(((cz _ w).alloc O _).alloc iF _).alloc iF _
 rw[hW0]
 refine wpIn_rangeFunc_ownH (w0:=W0) rfl O (gf:=281) (lb:=#[.pointer (some ⟨n0+1+1,0,none⟩)]) rfl trivial (AN func281 aT rfl)
  (Dp (e0:=PV.u0) (e1:=PV.u1) (e2:=PV.u2) (n0+2) n0 (.slice a L cap) ts O W0 O O (aH hP0 rfl) (hI.below hB0)) aa6 (ad4 O O) (cz _ _) (fun _=>rfl)
  (fun pre W=>Below n0 w W/\n0+3<=W.heap.size/\W.heap[n0+1]?=some (.cells #[.func (.func g) #[] cvs.toArray] 250 (0,0)) /\
   ∃ua ul uc,W.heap[n0]?=some (.cells #[.slice ua ul uc] 72 (0,0))/\(sQ (hP f pre)).rep (fun b=>M b\/b=n0) W (.slice ua ul uc))
  (fun _ _ _=>False) ?own (fun _=>by intro s A B row hs;exact hs.elim) ?start
  (fun y a' W=>∃b,n0+3<=b/\a'={ tmps:=#[.slice a L cap,.slice za zl zc,.func (.func g) #[] cvs.toArray,undef,.pointer (some ⟨n0,0,none⟩),.pointer (some ⟨n0+1,0,none⟩),.slice none 0 0,undef,.pointer (some ⟨b,0,none⟩),.slice a L cap,.func (.func 281) #[] #[.pointer (some ⟨n0+1+1,0,none⟩)],.int .i64 (y.1:Int),.agg #[y.2.u0,y.2.u1,y.2.u2],undef,undef,undef,undef,undef],defers:=[] } /\ W.heap[b]?=some (.cells #[y.2.u0,y.2.u1,y.2.u2] 39 (0,0)))
  ?ax ?assign ?body ?done ?stop
 case own=>
  rintro s A A' row ⟨h1,h2,h3,ua,ul,uc,h5,h6⟩ hg hr;have hr':∀r,row=some r->∃o:Obj,A.heap[r]?=some o/\o.isCells=false:=fun r e=>(hr r e).2;refine⟨h1.grown hg O (fun k e=>by have:=(hr k e).1;omega),an h2 hg.size,gD hg hr' h3 rfl,ua,ul,uc,gD hg hr' h5 rfl,aE.mono _ (fun b o hb ho hc=>⟨hb,gD hg hr' ho hc⟩) h6⟩
 case start=>
  refine⟨hB0,O,hS0,za,zl,zc,hX0,aE.mono _ (fun b o hb ho hc=>?_) hz⟩;have hlt:=(cf.1 ho).1;exact⟨fun h=>h.elim hb O,(hB0.block b O).trans ho⟩
 case ax=>
  rintro y a' _ A A' row ⟨b,h1,h2,h3⟩ hg hr;exact⟨b,h1,h2,gD hg (fun r e=>(hr r e).2) h3 rfl⟩
 case assign=>
  rintro l pre y W K ⟨h1,h2,h3,ua,ul,uc,h5,h6⟩ hK
  gi_wp2
  obtain⟨o0,o1,o2⟩:y.2.u0.oneCell'=true/\y.2.u1.oneCell'=true/\y.2.u2.oneCell'=true:=by
   have:=y.2.rep.one;exact⟨this _ bY,this _ bY,this _ bY⟩
  have hnew:=bc W (.cells #[.slice none 0 0,.bool false,.slice none 0 0] 39);rw[yW hnew o0 o1 o2];obtain⟨W',hW'⟩:∃W',(W.alloc (.cells #[.slice none 0 0,.bool false,.slice none 0 0] 39)).setRow W.heap.size #[y.2.u0,y.2.u1,y.2.u2]=W':=⟨_,rfl⟩
  have hold:∀k,k<W.heap.size->W'.heap[k]?=W.heap[k]?:=fun k hk=>by rw[<-hW',du _ _ _ _ O,bJ _ _ _ hk]
  have hself:W'.heap[W.heap.size]?=some (.cells #[y.2.u0,y.2.u1,y.2.u2] 39 (0,0)):=by rw[<-hW'];exact dP _ _ _ _ _ _ hnew
  have hbel:Below W.heap.size W W':=by rw[<-hW'];exact below_setRow ((cz _ W).alloc (ah _) _) _ (ah _)
  have hlt:∀{k:Nat}{o:Obj},W.heap[k]?=some o->k<W.heap.size:=fun h=>(cf.1 h).1;rw[hW']
  gi_wp2
  refine hK _ _ ⟨hbel.size,fun k o _ ho _=>(hold k (hlt ho)).trans ho⟩ ⟨hbel.mono O,fun v hv=>?_⟩
   ⟨h1.trans (hbel.mono O),an h2 hbel.size,(hold _ (hlt h3)).trans h3,ua,ul,uc,(hold _ (hlt h5)).trans h5,aE.mono _ (fun b o hb ho _=>⟨hb,(hold b (hlt ho)).trans ho⟩) h6⟩
   ⟨W.heap.size,O,rfl,hself⟩
  simp only[World.cell?,hold (n0+2) O]at hv|-;exact hv
 case body=>
  rintro l pre y a' W hl _ ⟨h1,h2,h3,ua,ul,uc,h5,h6⟩ ⟨b,hb,rfl,hbc⟩ hlt;have hltW:∀{k:Nat}{o:Obj},W.heap[k]?=some o->k<W.heap.size:=fun h=>(cf.1 h).1;have c0:W.cell? ⟨n0,0,none⟩=some (.slice ua ul uc):=aH h5 rfl;have cs:W.cell? ⟨n0+1,0,none⟩=some (.func (.func g) #[] cvs.toArray):=aH h3 rfl;have cb0:W.cell? ⟨b,0,none⟩=some y.2.u0:=aH hbc rfl;have cb1:W.cell? ⟨b,1,none⟩=some y.2.u1:=aH hbc rfl;have cb2:W.cell? ⟨b,2,none⟩=some y.2.u2:=aH hbc rfl;have hM1:∀k,(M k\/k=n0)->k<W.heap.size:=fun k h=>h.elim (fun h=>by have:=hM k h;omega) (fun h=>O)
  have hkeep:bq M w (fun b=>M b\/b=n0) W:=fun k o hk ho _=>by
   have hlt:=(cf.1 ho).1;exact⟨fun h=>h.elim hk O,(h1.block k O).trans ho⟩
  rw[hL]at hlt;have hdo:=hstep pre.length (hP f pre) y.2.q hlt (bK1 h0 hinv pre) y.2.ok
  have hcall:Calls prog g (Value.slice ua ul uc::Value.agg #[y.2.u0,y.2.u1,y.2.u2]::cvs).toArray W fun e w'=>Below W.heap.size W w'/\∃va vl vc,e=.returned (.slice va vl vc)/\(sQ (hP f (pre++[y]))).rep (fun b=>M b\/b=n0) w' (.slice va vl vc):=by
   have h7:=hdo.2 (fun b=>M b\/b=n0) W (.slice ua ul uc::.agg #[y.2.u0,y.2.u1,y.2.u2]::cvs) ⟨hM1,hMg.jc hkeep⟩ ⟨h6,⟨[_,_,_],rfl,y.2.rep.mono hkeep⟩,cW.xi (hcv.mono hkeep)⟩;refine h7.mono ?_;rintro e w' ⟨hb',vs,rfl,hvs⟩;rw[bq9];obtain⟨v,e1,hr⟩:=ap7 hvs;have hr':=hr;obtain⟨va,vc,rfl,_⟩:=hr';exact⟨hb',va,_,vc,by rw[e1],hr⟩
  have eg:∀args w,(callFunc g args).run prog w=.ok (.enter g args) w:=hdo.1
  gi_wp2
  refine⟨trivial,(FU l (lO.2 hcall)).mono ?_⟩;rintro e w' ⟨hbw,va,vl,vc,rfl,hvr⟩;have hbox:w'.heap[n0]?=some (.cells #[.slice ua ul uc] 72 (0,0)):=(hbw.block n0 (hltW h5)).trans h5;have d0:w'.cell? ⟨n0,0,none⟩=some (.slice ua ul uc):=aH hbox rfl;have df:w'.frozen? ⟨n0,0,none⟩=false:=by simp[World.frozen?,hbox]
  gi_wp2
  rw[xM w' n0 0 #[.slice ua ul uc] 72 (0,0) (.slice va vl vc) hbox];obtain⟨W3,hW3⟩:∃W3,w'.setRow n0 (#[Value.slice ua ul uc].setIfInBounds 0 (.slice va vl vc))=W3:=⟨_,rfl⟩
  have hself:W3.heap[n0]?=some (.cells #[.slice va vl vc] 72 (0,0)):=by rw[<-hW3];exact dP _ _ _ _ _ _ hbox
  have hoth:∀k,k≠n0->W3.heap[k]?=w'.heap[k]?:=fun k hk=>by rw[<-hW3,du _ _ _ _ hk]
  have hold:∀{k:Nat}{o:Obj},k≠n0->W.heap[k]?=some o->W3.heap[k]?=some o:=fun hk ho=>(hoth _ hk).trans ((hbw.block _ (hltW ho)).trans ho);have hbel:Below n0 W W3:=by rw[<-hW3];exact below_setRow (hbw.mono O) _ (ah _)
  rw[hW3];refine⟨⟨hbel.size,fun k o hk ho _=>hold O ho⟩,⟨hbel,fun v hv=>?_⟩,h1.trans hbel,an h2 hbel.size,hold O h3,va,vl,vc,hself,aE.mono _ (fun k o hk ho hc=>⟨hk,(hoth k fun e=>hk (.inr e)).trans ho⟩) hvr⟩;simp only[World.cell?,hoth (n0+2) O,hbw.block (n0+2) O]at hv|-;exact hv
 case done=>
  rintro D ys W hD rfl ⟨h1,h2,h3,ua,ul,uc,h5,h6⟩ hK;have c0:W.cell? ⟨n0,0,none⟩=some (.slice ua ul uc):=aH h5 rfl
  gi_wp2
  refine⟨bY,.inl ⟨_,_,rfl,AA hK,?_⟩⟩;refine⟨_,Gk rfl _ _ _,?_,⟨_,rfl,by rw[<-hL];exact aE.mono _ (fun k o hk ho hc=>⟨fun h=>hk (.inl h),(sE (fun e=>by rw[e,hK]at ho;cases ho;cases hc)).trans ho⟩) h6⟩⟩;rw[<-hn0]at h1;exact h1.trans (xU (w:=w) (ah _) W D _ _ O hK rfl rfl)
 case stop=>
  rintro D c pre W hD _ h hK;exact h.elim
def ck5{M:j2}{w:World}{Pq:k9}[Inhabited (PV M w Pq)](f:List Rat->Rat->List Rat)(ts:List (PV M w Pq)):hP f (bk ts ts.length)=(ts.map PV.q).foldr (fun c v=>f v c) []:=by
 have h:hP f (bk ts ts.length)=((bk ts ts.length).map Prod.snd).foldl (fun v c=>f v c.q) []:=by rw[hP,List.foldl_map]
 rw[h,aw7,List.foldl_reverse,List.foldr_map]
def YL(ps:j1)(Pq:k9)(f:List Rat->Rat->List Rat)(Inv:Nat->List Rat->Prop)(g:FuncId)(caps:List aE)(h0:Inv 0 [])(hinv:∀k v c,Inv k v->Pq c->Inv (k+1) (f v c))
  (hp:∀q∈ps,Pq q) (hz:Pq 0) (hlen:ps.length<4611686018427387904)
  (hstep:∀k v c,k<ps.length->Inv k v->Pq c->aK prog g (.one (sQ v)::qT c::caps.map .one) (.ret [.one (sQ (f v c))])) :
  aK prog 188 [.one (sQ ps),.one (sQ []),.one (.lp g caps)] (.ret [.one (sQ (ps.foldr (fun c v=>f v c) []))]):=by
 refine⟨bM aT,fun M w vs hM hv=>?_⟩
 match vs,hv with
 | [v0,v1,v2],⟨k0,k1,⟨fs,k2,hfs⟩,_⟩=>
   obtain⟨ts,a,cap,rfl,hq,hsl⟩:=bJ6 k0 hp
   haveI:Inhabited (PV M w Pq):=⟨⟨0,.slice none 0 0,.bool false,.slice none 0 0,hz,ai.sub fg ⟨⟨rfl,rfl⟩,⟨rfl,rfl⟩,⟨rfl,rfl⟩,trivial⟩⟩⟩
   subst k2;have hl:ps.length=ts.length:=by rw[<-hq,aX]
   have h1:=Wh M w Pq f Inv g caps h0 hinv hM a cap ts (by rw[<-hl];exact hstep) hsl v1 k1 fs hfs;rw[ck5,hq]at h1;refine((lO (n:=1001)).1 h1).mono ?_;rintro e w' ⟨hb,u,rfl,hr⟩;exact⟨hb,[u],rfl,hr,trivial⟩
 | [],hv=>exact hv.elim
 | [_],hv=>exact hv.2.elim
 | [_,_],hv=>exact hv.2.2.elim
 | _::_::_::_::_,hv=>exact hv.2.2.2.elim
end Go.Sy
namespace Go.Sy
open Go Go.Proofs Tryz Ord
theorem xg(x:Rat):∀p:List Rat,ev (trim p) x=ev p x
 | []=>rfl
 | a::p=>by
   have ih:=xg x p;unfold trim at ih|-;rw[eE];split
   .rename_i h;rw[h.1,kR,dV]at ih;have ha:a=0:=by simpa[zr]using h.2
    rw[kR,dV,av,<-ih,ha];grind
   .rw[pN,av,av,ih]
theorem LA:∀p:List Rat,uz (trim p)
 | []=>fun a h=>by cases h
 | a::p=>by
   have ih:=LA p;unfold trim at ih|-;rw[eE];split
   .intro b hb;cases hb
   .rename_i h;intro b hb;rw[pN,List.getLast?_cons]at hb;cases hl:(p.take (eE zr p)).getLast? with
    | some c=>
      rw[hl]at hb;simp only[ib,aM]at hb;subst hb;exact ih c hl
    | none=>
      rw[hl]at hb;simp only[Gm,aM]at hb;subst hb;intro e;refine h ⟨?_,by simp[zr,e]⟩;have h1:=ah2.1 hl;have h2:min (eE zr p) p.length=0:=by rw[<-bP,h1];rfl
      have:=kg (z:=zr) p;omega
theorem Hn(x:Rat):∀(p:j1)(m:Nat),p.length<=m->ev ((List.range m).map fun i=>p.getD i 0) x=ev p x
 | [],m,_=>by
   have:(List.range m).map (fun i=>([]:List Rat).getD i 0)=List.replicate m 0:=by
    apply kd;intro i;rw[dS,Bn];by_cases h:i<m
    .rw[jd h,aI h];rfl
    .rw[aD h,gE (by simpa using h)];rfl
   rw[this,Wu,dV]
 | a::p,0,h=>by simp at h
 | a::p,m+1,h=>by
   rw[Zt,dy,av,eG,av];have:=Hn x p m (by simpa using h);rw[<-this];rfl
theorem aS8(x:Rat)(f g:j4):∀l:List Nat,ev (l.map fun i=>f i+g i) x=ev (l.map f) x+ev (l.map g) x
 | []=>by simp only[jD,dV];grind
 | a::l=>by rw[dy,dy,dy,av,av,av,aS8 x f g l];grind
def YU(x:Rat)(p q:j1):ev (Rf p q) x=ev p x+ev q x:=by
 rw[Rf,xg,aS8,Hn x p _ (Nat.le_max_left _ _),Hn x q _ (Rw _ _)]
def bb8(x:Rat)(p q:j1):ev (xq p q) x=ev p x*ev q x:=by
 unfold xq;split
 .rename_i h;rcases h with rfl | rfl
  .rw[dV];grind
  .rw[dV];grind
 .rename_i h;have hq:0<q.length:=ZS.2 fun e=>h (.inr e);rw[xg,ZZ p q x hq _ (ah _),eW]
def JN(p q:j1):uz (Rf p q):=LA _
def zY{p:j1}{a:Rat}(h:a∈trim p):a∈p:=jg h
def ri(p:j1):(trim p).length<=p.length:=by rw[kL];exact kg _
def Ut(p q:j1):(Rf p q).length<=max p.length q.length:=by
 have:=ri ((List.range (max p.length q.length)).map fun i=>p.getD i 0+q.getD i 0);rw[aX,pT]at this;exact this
def bj9{D S T:Nat}(h0:D≠0){p q:j1}(hp:∀a∈p,Bd D S a)(hq:∀a∈q,Bd D T a):∀a∈Rf p q,Bd D (S+T) a:=fun a ha=>by
 obtain⟨i,_,rfl⟩:=jf.1 (zY ha);exact(lI hp i).add h0 (lI hq i)
def Df(p q:j1):(xq p q).length<=if p=[]then 0 else p.length+q.length-1:=by
 unfold xq;split
 .simp
 .rename_i h;rw[aD (fun e=>h (.inl e))];have:=ri (mulL p q p.length);rw[lr]at this;exact this
def ZQ{D E S T:Nat}(h0:D≠0)(h1:E≠0){p q:j1}(hp:∀a∈p,Bd D S a)(hq:∀b∈q,Bd E T b):∀x∈xq p q,Bd (D*E) (p.length*(S*T)) x:=fun x hx=>by
 unfold xq at hx;split at hx
 .cases hx
 .exact Fx h0 h1 hp hq _ x (zY hx)
def Pf(q v:j1)(c:Rat):List Rat:=Rf (xq v q) (trim [c])
def wF(p q:j1):List Rat:=p.foldr (fun c v=>Pf q v c) []
theorem CQ(x:Rat)(q:j1):∀p:List Rat,ev (wF p q) x=ev p (ev q x)
 | []=>rfl
 | a::p=>by
   have ih:=CQ x q p;unfold wF at ih|-;rw[List.foldr_cons,Pf,YU,bb8,xg,ih,av,av,dV];grind
def pk(p q:j1):uz (wF p q):=by
 cases p with
 | nil=>intro a h;cases h
 | cons a p=>exact JN _ _
def aL3(D E S T K:Nat)(k:Nat)(v:j1):Prop:=k<=K->v.length<=k/\∀a∈v,Bd (D*E^k) (S*(K*T+1)^k) a
def am0{D E S T K:Nat}:aL3 D E S T K 0 []:=fun _=>⟨ah _,fun a h=>by cases h⟩
def Yj{E:Nat}(h:E≠0)(k:Nat):E^k≠0:=fun e=>h (Nat.pow_eq_zero.1 e).1
def ar8{D E S T K:Nat}(h0:D≠0)(h1:E≠0){q:j1}(hq:∀b∈q,Bd E T b)(hql:q.length<=2)(k:Nat)(v:j1)(c:Rat)(h:aL3 D E S T K k v)(hc:Bd D S c):aL3 D E S T K (k+1) (Pf q v c):=by
 intro hk;obtain⟨hl,hb⟩:=h O;have hDk:D*E^k≠0:=da h0 (Yj h1 k);have hD1:D*E^(k+1)≠0:=da h0 (Yj h1 _)
 constructor
 .have h2:=Ut (xq v q) (trim [c]);have h3:=Df v q;have h4:=ri [c];unfold Pf;split at h3<;>simp at h4<;>omega
 .have h2:=ZQ hDk h1 hb hq
  have h3:∀x∈xq v q,Bd (D*E^(k+1)) (K*T*(S*(K*T+1)^k)) x:=fun x hx=>by
   refine(h2 x hx).mono ⟨1,by rw[bF,dc,dC]⟩ ?_;have:v.length*(S*(K*T+1)^k*T)<=K*(S*(K*T+1)^k*T):=cg _ O;refine an this (np ?_);rw[cD (S*_) T,dC]
  have h4:∀x∈trim [c],Bd (D*E^(k+1)) (S*(K*T+1)^k) x:=fun x hx=>by
   have:=zY hx;rw[eo]at this;subst this;exact hc.mono (nX _ _) (dn _ (aw O))
  intro a ha;refine(bj9 hD1 h3 h4 a ha).le (np ?_);rw[bF];generalize (K*T+1)^k=r;generalize K*T=u
  grind
def tV(D E S T K:Nat):Nat:=D*E^K*E*((K+1)*((S*(K*T+1)^K+1)*(T+1)))
def XJ{D E S T K k n:Nat}(h0:D≠0)(h1:E≠0)(hk:k<=K)(hn:n<=K):D*E^k*E*((n+1)*((S*(K*T+1)^k+1)*(T+1)))<=tV D E S T K:=by
 unfold tV;refine dE (cg _ (cd _ (cB O hk))) (dE O (cg _ ?_));have:=cd S (cB (n:=K*T+1) O hk);omega
def bC8:Tr:=eO 32 [W 0 0,W 2 0] [none] [6,7] [72,72] 72 false (vD 190 1 0 1 2 9 39 72 (rz 30 3 0 4 8 10 72 72 72 Wl))
def Qd:aO prog f189 cT [.v none,.v (some 3),.ref 1]=bC8:=aT
def bS2:Tr:=.need (.call 188 [W 0 0,.one (.c (.k (.slice none 0 0))),.one (.lp 189 [.ref 0 [.u 1 0]])] [none]) (D5 188 #[tT 5,.const (.slice none 0 0),tT 6] #[72,72,250]) 72 true aJ0
def Ys:aO prog f110 cT [.v none,.v none]=bS2:=aT
def bI9:Tr:=vD 111 1 0 1 2 6 39 72 (rz 110 0 0 2 5 7 72 72 72 (cC 3))
def aE7:aO prog f31 cT [.v none,.v (some 3)]=bI9:=aT
def Se(v q:j1)(c:Rat)(D E S T K k B:Nat)(h0:D≠0)(h1:E≠0)(hq:∀b∈q,Bd E T b)(hql:q.length<=2)(hv:aL3 D E S T K k v)(hc:Bd D S c)(hK:K<=1073741824)(hB:B<=8589934592)(hX:tV D E S T K<2^B)(hk:k<K:=by omega):aK prog 189 [(.one (sQ v):aF),(qT c:aF),(.one (.aW ([sQ q])):aF)] (.ret [.one (sQ (Pf q v c))]):=by
 refine dvr (ins:=[.v (.one (sQ v)),.v (qT c),.ref ([sQ q])]) func189 Qd ?_;obtain⟨hl,hb⟩:=hv O;have hDk:D*E^k≠0:=da h0 (Yj h1 k);have hX1:=cV (XJ (S:=S) (T:=T) (k:=k) (n:=v.length) h0 h1 O (show v.length<=K by omega)) hX;obtain⟨f1,f2,f3,f4⟩:=Uu hDk h1 hX1
 have hB1:1<=B:=by
  rcases iI B with rfl | h
  .exfalso
   have:0<D*E^k*E*((v.length+1)*((S*(K*T+1)^k+1)*(T+1))):=dN (iR (da hDk h1)) (dN O (dN O O));omega
  .exact h
 have hm:∀a∈xq v q,Fit B a:=fun a ha=>by
  have:=ZQ hDk h1 hb hq a ha;rcases iI v.length with h | h
  .have:v=[]:=ij h;subst this;simp[xq]at ha
  .refine f3 a (v.length-1) O (this.le (np ?_));rw[show v.length=v.length-1+1 by omega,ba,cZ,ny]
 have ht:∀a∈trim [c],Fit B a:=fun a ha=>by
  have:=zY ha;rw[eo]at this;subst this;exact f1 _ (hc.mono (nX _ _) (dn _ (aw O)))
 have l1:=Df v q;have l2:=ri [c];apply aA (bW3 v q (D*E^k) E (S*(K*T+1)^k) T B hDk h1 hb hq hB hX1);apply aA (Uc c);apply aA (bS3 (xq v q) (trim [c]) B B hB1 hB1 hm ht (by split at l1<;>omega) (by simp at l2;omega)) rfl;exact aN
def WH(p q:j1)(D E S T K B:Nat)(h0:D≠0)(h1:E≠0)(hp:∀a∈p,Bd D S a)(hq:∀b∈q,Bd E T b)(hql:q.length<=2)(hpl:p.length<=K)(hK:K<=1073741824)(hB:B<=8589934592)(hX:tV D E S T K<2^B):aK prog 110 [(.one (sQ p):aF),(.one (sQ q):aF)] (.ret [.one (sQ (wF p q))]):=by
 refine dB func110 Ys ?_
 refine pg (show aR [.one (sQ p),.one (.exact (.slice none 0 0)),.one (.lp 189 [.aW [sQ q]])] [.one (sQ p),.one (sQ []),.one (.lp 189 [.aW [sQ q]])]from⟨aF.Sub.same,aE.Sub.nil,aF.Sub.same,trivial⟩)
  (YL p (Bd D S) (fun v c=>Pf q v c) (aL3 D E S T K) 189 [.aW [sQ q]] am0 (fun k v c hv hc=>ar8 h0 h1 hq hql k v c hv hc) hp Bd.zero O
   (fun k v c hk hv hc=>Se v q c D E S T K k B h0 h1 hq hql hv hc hK hB hX)) rfl ?_
 exact aN
def fE(p:j1)(c:Rat):List Rat:=wF p [c,1]
def pX(p:j1)(c x:Rat):ev (fE p c) x=ev p (x+c):=by
 rw[fE,CQ];simp only[av,dV]
 congr 1;grind
def aw0(p:j1)(c:Rat)(D E S T K B:Nat)(h0:D≠0)(h1:E≠0)(hp:∀a∈p,Bd D S a)(hc:Bd E T c)(hT:1<=T)(hpl:p.length<=K)(hK:K<=1073741824)(hB:B<=8589934592)(hX:tV D E S T K<2^B):aK prog 31 [(.one (sQ p):aF),(qT c:aF)] (.ret [.one (sQ (fE p c))]):=by
 refine dB func31 aE7 ?_;apply aA (bu9 c)
 apply aA (WH p [c,1] D E S T K B h0 h1 hp (fun b hb=>by
  rcases ee.1 hb with rfl | hb
  .exact hc
  .rw[eo]at hb;subst hb;exact Bd.one hT) bY hpl hK hB hX) rfl
 exact aN
end Go.Sy
namespace Ord
theorem Bd.pow{D S:Nat}(h0:D≠0){x:Rat}(h:Bd D S x):∀n:Nat,Bd (D^n) (S^n) (x^n)
 | 0=>by rw[jt,jt,bQ];exact Bd.one (jI 1)
 | n+1=>by
   rw[bF,bF,bE];exact Bd.mul (fun e=>h0 (Nat.pow_eq_zero.1 e).1) h0 (Bd.pow h0 h n) h
def bB(z:Int):Nat->Int
 | 0=>1
 | i+1=>bB z i*(z-i)
theorem pz{z:Int}{N:Nat}:∀i:Nat,z.natAbs+i<=N->(bB z i).natAbs<=N^i
 | 0,_=>by simp[bB]
 | i+1,h=>by
   rw[bB,dx,bF];exact dE (pz i O) O
def inner(p a:j1)(m n i:Nat)(x:Rat):Nat->Rat
 | 0=>x
 | k+1=>if i<m+k then inner p a m n i x k-p.getD k 0*((bB ((n:Int)-((m:Int)+k-i)) i:Int):Rat)*a.getD (n-(m+k-i)) 0 else inner p a m n i x k
def outer(q:j0)(a:j1)(m n:Nat):Nat->Rat
 | 0=>0
 | i+1=>inner (q.getD i []) a m n i (outer q a m n i) (min (q.getD i []).length (n-m+1))
def oP(q:j0)(m:Nat)(lead:Rat)(y:j1)(n:Nat)(a:j1):Rat:=
 if n<m then y.getD n 0/((bB n n:Int):Rat)else outer q a m n q.length/(lead*((bB n m:Int):Rat))
def aU(q:j0)(m:Nat)(lead:Rat)(y:j1):Nat->List Rat
 | 0=>[]
 | n+1=>aU q m lead y n++[oP q m lead y n (aU q m lead y n)]
theorem bg(q:j0)(m:Nat)(lead:Rat)(y:j1):∀n,(aU q m lead y n).length=n
 | 0=>rfl
 | n+1=>by rw[aU,RA,bg q m lead y n];rfl
def sD(q:j0)(m:Nat)(lead:Rat)(y:j1){k n:Nat}(h:k<=n:=by omega):(aU q m lead y n).take k=aU q m lead y k:=by
 induction n with
 | zero=>
   obtain rfl:k=0:=O
   rfl
 | succ n ih=>
   rcases bG n k with h1 | h1
   .obtain rfl:k=n+1:=O
    rw[cU (by rw[bg];omega)]
   .rw[aU,xD (by rw[bg];exact h1),ih h1]
structure jy(B:Nat)(q:j0)(m:Nat)(lead:Rat)(y:j1)(N:Nat):Prop where
 flead:Fit B lead
 fy:∀x∈y,Fit B x
 fq:∀p∈q,∀x∈p,Fit B x
 ffall:∀n i:Nat,n<N->i<=m->∀z:Int,z.natAbs<=N->∀j≤i,Fit B ((bB z j:Int):Rat)
 ffac:∀n:Nat,n<m->∀j≤n,Fit B ((bB n j:Int):Rat)
 fa:∀n,n<N->Fit B (oP q m lead y n (aU q m lead y n))
 fx:∀n i k,n<N->m<=n->i<q.length->k<=min (q.getD i []).length (n-m+1)->Fit B (inner (q.getD i []) (aU q m lead y n) m n i (outer q (aU q m lead y n) m n i) k)
end Ord
namespace Ord
theorem tj{z:Int}:∀{i:Nat},(i:Int)<=z->bB z i≠0
 | 0,_=>by simp[bB]
 | i+1,h=>by
   rw[bB];exact Int.mul_ne_zero (tj (i:=i) O) O
end Ord
namespace Go.Sy
open Go Go.Proofs Tryz Ord
def bR3:Tr:=dW 3 1 0 3 9 8 4 (aJ 7 0 (ez 0 0 3 0 3 13 14 (oh 68 8 3 15 2 39 (lZ 36 4 0 5 0 6 0 9 0 9 1 9 2 12 16 (bX 3 1 3 9 (xx 0 11 10 10 1 10 2))))) (iz 4 5 0 6 0))
def bS6:Tr:=og 68 1 3 2 39 (.loop 0 [lK 0,lV 2 0,lV 2 1,lV 2 2] bR3)
def XG:aO prog f209 cT [.v none,.v none]=bS6:=aT
def bW4:Tr:=FX .rem 3 11 2 3 0 3 (gd 11 0 1 3 12 (aJ 12 0 (lZ 36 7 0 8 0 9 0 4 0 5 0 6 0 14 15 (lZ 36 4 0 5 0 6 0 4 0 5 0 6 0 17 18 (FX .quo 3 9 2 3 0 3 (.back 0 [lV 15 0,lV 14 0,lV 14 1,lV 14 2,lV 13 0,lV 13 1,lV 13 2])))) (lZ 36 4 0 5 0 6 0 4 0 5 0 6 0 17 18 (FX .quo 3 9 2 3 0 3 (.back 0 [lV 14 0,lV 13 0,lV 13 1,lV 13 2,lV 7 0,lV 8 0,lV 9 0])))))
def ce1:Tr:=og 68 1 3 2 39 (.loop 0 [lV 1 0,lV 0 0,lV 0 1,lV 0 2,lV 2 0,lV 2 1,lV 2 2] (ia 3 0 0 3 7 (aJ 10 0 bW4 (iz 7 8 0 9 0))))
def ai7:aO prog f203 cT [.v (some 3),.v none]=ce1:=aT
def bS8:Tr:=eO 200 [G3 0,G3 1] [some 3,none] [8,9] [39,39] 90 false (iz 2 2 1 2 2)
def be0:aO prog f207 cT [.v (some 3),.v (some 3)]=bS8:=aT
def cb9:Tr:=aJ 4 0 (jL 0 0 3 0 31 7 9 (cq 5 72 11 (vC 95 6 14 72 3 (aC6 7 13 15 (bX 3 1 3 9 (kA 0 8 9)))))) (dh 0 1 2 0 3 19 20 Wl)
def bZ3:Tr:=bD 0 0 7 31 (Cw (dW 3 1 0 3 9 8 0 cb9))
def av1:aO prog f204 cT [.v (some 5)]=bZ3:=aT
def cd5:Tr:=jL 0 0 5 0 32 12 14 (cq 12 72 16 (eO 31 [W 13 0,G3 1] [none] [20,21] [72,39] 72 true (tM 14 31 22 (jk 1 24 6 15 19 23 31 (bX 5 1 3 14 (.back 0 [lV 17 0,.row 16,lV 7 0,lV 8 0,lV 9 0,lV 10 0]))))))
def bN5:Tr:=dW 5 4 0 3 14 13 0 (aJ 11 0 cd5 (eV 6 7 31 28 30 (oq 6 7 72 31 (mr 12 0 0 72 32 (dK 13 3 39 33 (.ret [.agg [.c (.sr 1 6),U 7 0,U 14 0,U 14 1,U 14 2]]))))))
def bR9:Tr:=bD 0 0 8 32 (iJ 2 1 9 (bD 0 0 12 32 (.loop 0 [lK 0,.nilrow,lV 3 0,lN,.w (.one (.c (.k (.bool false)))),lN] bN5)))
def cn9:aO prog f100 cT [.v none,.v (some 3)]=bR9:=aT
def cb8:Tr:=Dc 158 1 2 37 (oh 256 0 1 4 3 35 (TP 115 1 2 3 3 5 39 (iz 3 3 1 3 2)))
def ax3:aO prog f202 cT [.v none]=cb8:=aT
def bG2:Tr:=Yf 2 (.need (.call 283 [W 0 0,WK 256] [none]) (D5 283 #[tT 4,.const (I3 256)] #[3,3]) 3 true (eO 282 [G1 1,W 2 0] [some 1] [3,5] [35,3] 35 true (sV 3)))
def bA1:aO prog f256 cT [.v none]=bG2:=aT
def intCast_mul(a b:Int):((a:Rat)*(b:Rat))=((a*b:Int):Rat):=(uj a b).symm
def lT(z:Int)(i B:Nat)(h64:64<=B)(hf:∀j,j<=i->Fit B ((bB z j:Int):Rat))(hz1:-4611686018427387904<=z:=by omega)(hz2:z<4611686018427387904:=by omega)(hi:i<4611686018427387904:=by omega)(hB:B<=17179869184:=by omega):aK prog 209 [(.one (.int .i64 z):aF),(.one (.int .i64 i):aF)] (.ret [qT ((bB z i:Int):Rat)]):=by
 refine dB func209 XG ?_;apply aA (ph 1);refine bC {j:Nat // j<=i} (fun g=>(.one (.int .i64 g.1):aF)::(qC ((bB z g.1:Int):Rat)).map .one) (fun g=>i-g.1) ⟨0,cG _⟩ aR.rfl (fun _=>rfl) ?_;rintro⟨j,hj⟩;dsimp only[aP,aQ,List.map]at hj|-;refine uS az ?_ ?_<;>intro h3
 .apply vn aL;apply aA (ph (z-j));apply aA (cr _ _ B 64 (hf j hj) (Fit.int O O));rw[intCast_mul];apply vn aC;dsimp only[aP,aQ];exact aa rfl ⟨⟨j+1,O⟩,aR.rfl,by show i-(j+1)<i-j;omega⟩
 rw[show i=j by omega];exact aN
def VP(x:Rat)(j:Nat):x^j*x^j=x^(2*j):=by rw[show 2*j=j+j by omega,qM]
def bS9{n i j k:Nat}(h1:i+j*k=n)(hm:k%2=1):i+j+2*j*(k/2)=n:=by
 have h:k=2*(k/2)+1:=O
 generalize k/2=t at *;subst h;subst h1;grind
def bo1{n i j k:Nat}(h1:i+j*k=n)(hm:k%2=0):i+2*j*(k/2)=n:=by
 have h:k=2*(k/2):=O
 generalize k/2=t at *;subst h;subst h1;grind
def kU(x:Rat)(n B:Nat)(hf:∀j,j<=2*n+1->Fit B (x^j))(hn:n<4611686018427387904:=by omega)(hB:B<=17179869184:=by omega):aK prog 203 [(qT x:aF),(.one (.int .i64 n):aF)] (.ret [qT (x^n)]):=by
 refine dB func203 ai7 ?_;apply aA (ph 1);dsimp only[aP,aQ]
 refine bC {g:Nat×Nat×Nat // g.2.1+g.2.2*g.1=n/\g.2.2<=2*n+1/\g.1<=n} (fun g=>(.one (.int .i64 g.1.1):aF)::((qC (x^g.1.2.2)).map .one++(qC (x^g.1.2.1)).map .one)) (fun g=>g.1.1) ⟨(n,0,1),by show 0+1*n=n;omega,by show 1<=_;omega,ah n⟩ (show aR _ _ by
  dsimp only;rw[bQ,show x^1=x by rw[bE,bQ];grind];exact aR.rfl) (fun _=>rfl) ?_
 rintro⟨⟨k,i,j⟩,h1,h2,hkn⟩;dsimp only[aP,aQ,List.map]at h1 h2 hkn|-;refine uS fL ?_ ?_<;>intro h3
 .have hk:0<k:=O
  have hjk:j<=j*k:=dn _ hk
  have hj2:2*j<=2*n+1:=by
   generalize j*k=u at h1 hjk;omega
  apply vn gR;refine uS bA ?_ ?_<;>intro h6
  .apply aA (cr _ _ B B (hf i O) (hf j O));rw[<-qM];apply aA (cr _ _ B B (hf j O) (hf j O));rw[VP];apply vn kW;dsimp only[aP,aQ];have hm:k%2=1:=O
   exact aa rfl ⟨⟨(k/2,i+j,2*j),bS9 h1 hm,hj2,an (oA _ _) hkn⟩,aR.rfl,by show k/2<k;omega⟩
  apply aA (cr _ _ B B (hf j O) (hf j O));rw[VP];apply vn kW;dsimp only[aP,aQ];have hm:k%2=0:=O
  exact aa rfl ⟨⟨(k/2,i,2*j),bo1 h1 hm,hj2,an (oA _ _) hkn⟩,aR.rfl,by show k/2<k;omega⟩
 have hk:k=0:=O
 subst hk;rw[show n=i by omega];exact aN
def uO(a b:Rat)(A B:Nat)(hb0:b≠0)(ha:Fit A a)(hb:Fit B b)(h:A+B<=34359738368:=by omega):aK prog 207 [(qT a:aF),(qT b:aF)] (.ret [qT (a/b)]):=by
 refine dB func207 be0 ?_;have hd:=aS1 a b A B ha hb h;rw[aD hb0,aD hb0]at hd;apply aA hd;exact aN
abbrev Cl(q:j0)(m:Nat)(lead:Rat):aF:=.agg ([eQ q,.int .i64 m]++qC lead)
def aj(q:j0):Nat:=q.foldl (fun d p=>max d (eE zr p-1)) 0
def CZ(q:j0)(p:j1):aj (q++[p])=max (aj q) (eE zr p-1):=by simp[aj]
def td{N:Nat}:∀(q:j0),(∀p∈q,p.length<=N)->aj q<=N:=by
 have key:∀(q:j0)(d:Nat),d<=N->(∀p∈q,p.length<=N)->q.foldl (fun d p=>max d (eE zr p-1)) d<=N:=by
  intro q
  induction q with
  | nil=>intro d h _;exact h
  | cons p q ih=>
    intro d h hp;have:=kg (z:=zr) p;have:=hp p gG;exact ih _ (show max d (eE zr p-1)<=N by omega) fun r hr=>hp r (fj _ hr)
 exact fun q h=>key q 0 (cG _) h
def Uh(q:j0)(m:Nat)(lead:Rat)(hq:∀p∈q,p.length<1099511627776)(hql:q.length<1099511627776:=by omega)(hm:m<1099511627776:=by omega):aK prog 204 [(Cl q m lead:aF)] (.ret [.one (.int .i64 ((m+aj q:Nat):Int))]):=by
 refine dB func204 av1 ?_;apply vn (aZ We (aX _));refine bC {i:Nat // i<=q.length} (fun g=>[.one (.int .i64 ((aj (q.take g.1):Nat):Int)),.one (.int .i64 g.1)]) (fun g=>q.length-g.1) ⟨0,cG _⟩ aR.rfl (fun _=>rfl) ?_;rintro⟨i,hi⟩;dsimp only[aP,aQ]at hi|-;have hd:=td (N:=1099511627776) (q.take i) fun p hp=>na (hq p (jg hp));refine uS az ?_ ?_<;>intro h3
 .obtain⟨p,hp⟩:∃p,q[i]?=some p:=⟨_,bU O⟩
  have hpl:=hq p (cj hp);apply vn (aY We hp);apply vn (bI Vf);apply aA (Cq p hpl);apply vn aU3;apply vn aC;dsimp only[aP,aQ]
  have e:max ((aj (q.take i):Nat):Int) ((eE zr p:Int)-1)=((aj (q.take (i+1)):Nat):Int):=by
   rw[nm,hp,Option.toList_some,CZ];omega
  exact aa rfl ⟨⟨i+1,O⟩,aR.of_eq (by rw[dy,dy,jD];dsimp only;rw[<-e];rfl),by show q.length-(i+1)<q.length-i;omega⟩
 rw[show i=q.length by omega,eW]at hd|-;apply vn aC;dsimp only[aP,aQ];rw[show((m+aj q:Nat):Int)=(m:Int)+(aj q:Int) by omega];exact aN
def Xz{α:Type}{l:List α}{i:Nat}{x:α}(h:l[i]?=some x):l.take i++[x]=l.take (i+1):=by
 rw[nm,h];rfl
def aG(e:j0)(c:Rat):Rat:=(fE (e.getD (e.length-1) []) c).getD 0 0
def cq1(e:j0)(c:Rat)(D E S T K B:Nat)(h0:D≠0)(h1:E≠0)(hp:∀p∈e,(∀a∈p,Bd D S a)/\p.length<=K)(hc:Bd E T c)(hT:1<=T)(hK:K<=1073741824)(hB:B<=8589934592)(hX:tV D E S T K<2^B)(he:0<e.length)(hel:e.length<1099511627776)(hne:fE (e.getD (e.length-1) []) c≠[]):aK prog 100 [(.one (eQ e):aF),(qT c:aF)] (.ret [Cl (e.map (fE · c)) (e.length-1) (aG e c)]):=by
 refine dB func100 cn9 ?_;have e1:(e.length:Int)-1=((e.length-1:Nat):Int):=O
 apply vn (aZ En (aX _));apply vn aL;rw[e1];apply vn (aZ En (aX _));refine bC {i:Nat // i<=e.length} (fun g=>[.one (.int .i64 g.1),.rows ((e.take g.1).map fun p=>cQ (fE p c)),.one (.int .i64 ((e.length-1:Nat):Int)),.one (.exact (.slice none 0 0)),.one (.bool false),.one (.exact (.slice none 0 0))]) (fun g=>e.length-g.1) ⟨0,cG _⟩ aR.rfl (fun _=>rfl) ?_;rintro⟨i,hi⟩;dsimp only[aP,aQ]at hi|-;refine uS az ?_ ?_<;>intro h5
 .obtain⟨p,hpi⟩:∃p,e[i]?=some p:=⟨_,bU O⟩
  obtain⟨hpb,hpk⟩:=hp p (cj hpi);have hti:(e.take i).length<=i:=by rw[bP];omega
  apply vn (aY En hpi);apply vn (bI Vf);apply aA (aw0 p c D E S T K B h0 h1 hpb hc hT hpk hK hB hX);apply bh (us:=[cQ (fE p c)]);refine rW (xs:=e.take i) (x:=p) (f:=fun p=>cQ (fE p c)) rfl rfl O (by simp only[maxLen];omega) ?_;rw[Xz hpi];apply vn aC;dsimp only[aP,aQ];exact aa rfl ⟨⟨i+1,O⟩,aR.rfl,by show e.length-(i+1)<e.length-i;omega⟩
 have hie:i=e.length:=O
 subst hie;rw[eW];obtain⟨p,hpi⟩:∃p,e[e.length-1]?=some p:=⟨_,bU O⟩
 have hgd:e.getD (e.length-1) []=p:=by rw[dp,hpi];rfl
 rw[hgd]at hne;have hlen:0<(fE p c).length:=ZS.2 hne;refine dz rfl rfl O D6 ?_;refine tZ rfl rfl O (bV _) hpi rfl ?_;apply vn (aY mh (cS (l:=fE p c) hlen) rfl);apply vn (ay mq dO bY (.inl rfl));dsimp only[aP,aQ];rw[show aG e c=(fE p c).getD 0 0 by rw[aG,hgd],show(e.map fun p=>cQ (fE p c))=(e.map (fE · c)).map cQ by rw[eG];rfl];exact aN
def cn0(k:Nat)(hk:k<=256):aK prog 256 [(.one (.int .i64 k):aF)] (.ret [mT (2^k)]):=by
 refine dB func256 bA1 ?_;apply aA (lP 2);apply aA (TM k 256);rw[show max (0:Int) (min (k:Int) 256)=(k:Int) by omega];apply aA (aa8 2 k 2);exact aN
def CG(k:Nat)(hk:k<=256:=by omega):aK prog 202 [(.one (.int .i64 k):aF)] (.ret [qT (mkRat 1 (2^k))]):=by
 refine dB func202 ax3 ?_;apply aA (Qb 1);apply aA (cn0 k hk)
 apply aA (AY 1 (2^k) (aw O) (by
  obtain⟨H,hH⟩:∃H,H=257:=⟨_,rfl⟩
  have h1:(dg (2^k)).length<=H:=jC (mZ O O);have h2:(dg (1:Int).natAbs).length=1:=by rw[show(1:Int).natAbs=1 from rfl,sj];rfl
  omega)) rfl
 exact aN
end Go.Sy
