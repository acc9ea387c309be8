/- Part. -/
import Derived.Test.YtdmcadckdnnglaaGreatDoorQf
set_option linter.all false
set_option maxHeartbeats 1000000
namespace Ord
def Bd.inv{E T:Nat}{r:Rat}(h1:E≠0)(h:Bd E T r)(hr:r≠0):Bd r.num.natAbs E r⁻¹:=by
 have hn:r.num≠0:=fun e=>hr (Rat.num_eq_zero.1 e);have hd:=Nat.le_of_dvd O h.1;unfold Bd;rw[Rat.num_inv,Rat.den_inv,if_neg hn,Int.natAbs_mul,Int.natAbs_sign_of_ne_zero hn,Int.natAbs_natCast,Nat.one_mul];exact⟨Nat.dvd_refl _,Nat.le_trans hd (Nat.le_mul_of_pos_right _ O)⟩
def Bd.div{D E S T:Nat}{a r:Rat}(h0:D≠0)(h1:E≠0)(ha:Bd D S a)(h:Bd E T r)(hr:r≠0):Bd (D*r.num.natAbs) (S*E) (a/r):=by
 rw[Rat.div_def];exact ha.mul h0 (fun e=>hr (Rat.num_eq_zero.1 O)) (h.inv h1 hr)
def Bd.bq7{D S:Nat}{q:Rat}(h0:D≠0)(h:Bd D S q):q.num.natAbs<=S*D:=Nat.le_trans h.2 (Nat.mul_le_mul_left _ (Nat.le_of_dvd O h.1))
def Vn{z:Int}(h:z≠0):(z:Rat)≠0:=fun e=>h (by have:=congrArg Rat.num e;simpa using this)
section
variable{q:List (List Rat)}{a:List Rat}{m n D S X A F L:Nat}
def CI{p:List Rat}{i:Nat}{x:Rat}{Y:Nat}(h0:D≠0)(h1:X≠0)(hp:∀b∈p,Bd D S b)(ha:∀b∈a,Bd X A b)(hF:∀z:Int,z.natAbs<=n+m->(aq z i).natAbs<=F)(hi:i<=m)(hx:Bd (D*X) Y x) :
  ∀k,k<=n-m+1->m<=n->Bd (D*X) (Y+k*(S*F*A)) (inner p a m n i x k)
 | 0,_,_=>by simpa[inner]using hx
 | k+1,hk,hmn=>by
   have ih:=CI h0 h1 hp ha hF hi hx k O hmn;have hm:Y+k*(S*F*A)<=Y+(k+1)*(S*F*A):=by rw[Nat.add_mul];omega
   rw[inner];split
   ·have hpk:Bd D S (p.getD k 0):=by
     rw[List.getD_eq_getElem?_getD];cases h:p[k]? with
     | none=>exact Bd.zero
     | some b=>exact hp b (List.mem_of_getElem? h)
    have hak:Bd X A (a.getD (n-(m+k-i)) 0):=by
     rw[List.getD_eq_getElem?_getD];cases h:a[n-(m+k-i)]? with
     | none=>exact Bd.zero
     | some b=>exact ha b (List.mem_of_getElem? h)
    have hf:Bd 1 F ((aq ((n:Int)-((m:Int)+k-i)) i:Int):Rat):=Bd.int (hF _ O);have h2:=(hpk.mul h0 O hf).mul O h1 hak;rw[Nat.mul_one]at h2;have h3:=ih.sub (Nat.mul_ne_zero h0 h1) h2;rw[Nat.add_mul,Nat.one_mul,<-Nat.add_assoc];exact h3
   ·exact ih.le hm
def CY(h0:D≠0)(h1:X≠0)(hq:∀p∈q,p.length<=L/\∀b∈p,Bd D S b)(ha:∀b∈a,Bd X A b)(hF:∀i,i<=m->∀z:Int,z.natAbs<=n+m->(aq z i).natAbs<=F)(hmn:m<=n) :
  ∀i,i<=m+1->Bd (D*X) (i*(L*(S*F*A))) (outer q a m n i)
 | 0,_=>by simpa[outer]using Bd.zero
 | i+1,hi=>by
   have ih:=CY h0 h1 hq ha hF hmn i O
   have hp:(q.getD i []).length<=L/\∀b∈q.getD i [],Bd D S b:=by
    rw[List.getD_eq_getElem?_getD];cases h:q[i]? with
    | none=>exact⟨Nat.zero_le _,fun b hb=>by cases hb⟩
    | some p=>exact hq p (List.mem_of_getElem? h)
   rw[outer];refine(CI h0 h1 hp.2 ha (hF i O) O ih _ (Nat.min_le_right _ _) hmn).le ?_;rw[Nat.add_mul i 1,Nat.one_mul];exact Nat.add_le_add_left (Nat.mul_le_mul_right _ (Nat.le_trans (Nat.min_le_left _ _) hp.1)) _
end
structure aS8(q:List (List Rat))(m:Nat)(lead:Rat)(y:List Rat)(D S E T L:Nat):Prop where
 d0:D≠0
 e0:E≠0
 s1:1<=S
 t1:1<=T
 l1:1<=L
 hq:∀p∈q,p.length<=L/\∀b∈p,Bd D S b
 hl:Bd D S lead
 l0:lead≠0
 hy:∀b∈y,Bd E T b
 ql:q.length=m+1
def iK(m N:Nat):Nat:=(N+m+m)^m
def lU(m N D S E:Nat):Nat:=E*iK m N+D*(S*iK m N*D)
def dk(m N D S L:Nat):Nat:=(m+1)*(L*(S*iK m N))*D
def QK{m N n:Nat}(hn:n<N):∀i,i<=m->∀z:Int,z.natAbs<=n+m->(aq z i).natAbs<=iK m N:=fun i hi z hz=>
 Nat.le_trans (mX (N:=N+m+m) i O) (Nat.pow_le_pow_right O hi)
def wN{q:List (List Rat)}{m:Nat}{lead:Rat}{y:List Rat}{D S E T L N:Nat}(C:aS8 q m lead y D S E T L)(hmN:m<=N) :
  ∀n,n<=N->∃X,X≠0/\X<=lU m N D S E^n/\∀b∈aN q m lead y n,Bd X (T*dk m N D S L^n) b:=by
 have hF1:1<=N->1<=iK m N:=fun h=>Nat.pow_pos O;intro n
 induction n with
 | zero=>exact fun _=>⟨1,O,by simp,fun b hb=>by cases hb⟩
 | succ n ih=>
   intro hn;obtain⟨X,hX0,hXQ,hb⟩:=ih O;have hF:=QK (m:=m) (N:=N) (n:=n) O;have hF1:=hF1 O;have hD:=Nat.pos_of_ne_zero C.d0;have hE:=Nat.pos_of_ne_zero C.e0;have hR1:1<=dk m N D S L:=Nat.mul_pos (Nat.mul_pos O (Nat.mul_pos C.l1 (Nat.mul_pos C.s1 hF1))) hD;have hTR:T*dk m N D S L^n<=T*dk m N D S L^(n+1):=Nat.mul_le_mul_left _ (Nat.pow_le_pow_right hR1 O);have hT:T<=T*dk m N D S L^(n+1):=Nat.le_mul_of_pos_right _ (Nat.pow_pos hR1)
   have key:∃u,u≠0/\u<=lU m N D S E/\Bd (X*u) (T*dk m N D S L^(n+1)) (kp q m lead y n (aN q m lead y n)):=by
    unfold kp;split
    ·rename_i hnm;have hf0:((aq n n:Int):Rat)≠0:=Vn (qB O);have hfz:(aq n n).natAbs<=iK m N:=hF n O n O
     have hy:Bd E T (y.getD n 0):=by
      rw[List.getD_eq_getElem?_getD];cases h:y[n]? with
      | none=>exact Bd.zero
      | some b=>exact C.hy b (List.mem_of_getElem? h)
     have h:=hy.div C.e0 (E:=1) O (Bd.int hfz) hf0;rw[Nat.mul_one,Rat.num_intCast]at h;refine⟨E*(aq n n).natAbs,Nat.mul_ne_zero C.e0 (fun e=>hf0 (by rw[Int.natAbs_eq_zero.1 e];rfl)),?_,h.mono (Nat.dvd_mul_left _ _) hT⟩;exact Nat.le_trans (Nat.mul_le_mul_left _ hfz) (Nat.le_add_right _ _)
    ·rename_i hnm;have hmn:m<=n:=O
     have hf0:((aq n m:Int):Rat)≠0:=Vn (qB O);have hfz:(aq n m).natAbs<=iK m N:=hF m O n O;have hr:=C.hl.mul C.d0 (E:=1) O (Bd.int hfz);rw[Nat.mul_one]at hr
     have hr0:lead*((aq n m:Int):Rat)≠0:=fun e=>by
      rcases Rat.mul_eq_zero.1 e with e | e
      ·exact C.l0 e
      ·exact hf0 e
     have ho:=CY C.d0 hX0 C.hq hb hF hmn q.length (by rw[C.ql];omega);have h:=ho.div (Nat.mul_ne_zero C.d0 hX0) C.d0 hr hr0;rw[show D*X*(lead*((aq n m:Int):Rat)).num.natAbs=X*(D*(lead*((aq n m:Int):Rat)).num.natAbs) by rw[Nat.mul_comm D X,Nat.mul_assoc]]at h;refine⟨_,Nat.mul_ne_zero C.d0 (fun e=>hr0 (Rat.num_eq_zero.1 (Int.natAbs_eq_zero.1 e))),?_,h.le ?_⟩
     ·exact Nat.le_trans (Nat.mul_le_mul_left _ (hr.bq7 C.d0)) (Nat.le_add_left _ _)
     ·rw[C.ql,Nat.pow_succ];unfold dk;generalize ((m+1)*(L*(S*iK m N))*D)^n=R;refine Nat.le_of_eq ?_
      ac_rfl
   obtain⟨u,hu0,huQ,hu⟩:=key;refine⟨X*u,Nat.mul_ne_zero hX0 hu0,?_,fun b hbm=>?_⟩
   ·rw[Nat.pow_succ];exact Nat.mul_le_mul hXQ huQ
   ·rw[aN]at hbm;rcases List.mem_append.1 hbm with h | h
    ·exact(hb b h).mono (Nat.dvd_mul_right _ _) hTR
    ·rw[List.mem_singleton.1 h];exact hu
def zL(m N D S E T L:Nat):Nat:=D*lU m N D S E^N*(T*dk m N D S L^(N+1))
def Vl{q:List (List Rat)}{m:Nat}{lead:Rat}{y:List Rat}{D S E T L N B:Nat}(C:aS8 q m lead y D S E T L)(hB:zL m N D S E T L<2^B)(hmN:m<=N:=by omega)(h1N:1<=N:=by omega):gm B q m lead y N:=by
 have hF1:1<=iK m N:=Nat.pow_pos O;have hD:=Nat.pos_of_ne_zero C.d0;have hE:=Nat.pos_of_ne_zero C.e0;have hSF:1<=S*iK m N:=Nat.mul_pos C.s1 hF1;have hR1:1<=dk m N D S L:=Nat.mul_pos (Nat.mul_pos O (Nat.mul_pos C.l1 hSF)) hD;have hQ1:1<=lU m N D S E:=Nat.le_trans (Nat.mul_pos hE hF1) (Nat.le_add_right _ _);have hQN:1<=lU m N D S E^N:=Nat.pow_pos hQ1;have hRN:1<=dk m N D S L^N:=Nat.pow_pos hR1
 have hRS:dk m N D S L<=dk m N D S L^(N+1):=by
  rw[Nat.pow_succ];exact Nat.le_mul_of_pos_left _ hRN
 have hEQ:E<=lU m N D S E^N:=Nat.le_trans (Nat.le_trans (Nat.le_mul_of_pos_right _ hF1) (Nat.le_add_right _ _)) (Nat.le_trans (Nat.le_of_eq (Nat.pow_one _).symm) (Nat.pow_le_pow_right hQ1 h1N))
 have hSR:S*iK m N<=dk m N D S L:=by
  refine Nat.le_trans ?_ (Nat.le_mul_of_pos_right _ hD);refine Nat.le_trans ?_ (Nat.le_mul_of_pos_left _ O);exact Nat.le_mul_of_pos_left _ C.l1
 have hS:S<=dk m N D S L:=Nat.le_trans (Nat.le_mul_of_pos_right _ hF1) hSR;have hF:iK m N<=dk m N D S L:=Nat.le_trans (Nat.le_mul_of_pos_left _ C.s1) hSR
 have big:∀{X Y:Nat}{x:Rat},X≠0->Bd X Y x->X<=D*lU m N D S E^N->Y<=T*dk m N D S L^(N+1)->Fit B x:=fun {X Y x} h0 h hX hY=>by
  have hV:Y*X<=zL m N D S E T L:=by
   unfold zL;rw[Nat.mul_comm (D*lU m N D S E^N)];exact Nat.mul_le_mul hY hX
  refine h.fit h0 (Nat.lt_of_le_of_lt ?_ hB) (Nat.lt_of_le_of_lt hV hB);unfold zL;exact Nat.le_trans hX (Nat.le_mul_of_pos_right _ (Nat.mul_pos C.t1 (Nat.pow_pos hR1)))
 have hTR:dk m N D S L^(N+1)<=T*dk m N D S L^(N+1):=Nat.le_mul_of_pos_left _ C.t1;have hDQ:D<=D*lU m N D S E^N:=Nat.le_mul_of_pos_right _ hQN;have hint:∀{z:Int},z.natAbs<=iK m N->Fit B (z:Rat):=fun {z} hz=>big (X:=1) O (Bd.int hz) (Nat.mul_pos hD hQN) (Nat.le_trans hF (Nat.le_trans hRS hTR));have hco:=wN C hmN
 refine⟨big C.d0 C.hl hDQ (Nat.le_trans hS (Nat.le_trans hRS hTR)),fun x hx=>big C.e0 (C.hy x hx) (Nat.le_trans hEQ (Nat.le_mul_of_pos_left _ hD)) (Nat.le_mul_of_pos_right _ (Nat.pow_pos hR1)),fun p hp x hx=>big C.d0 ((C.hq p hp).2 x hx) hDQ (Nat.le_trans hS (Nat.le_trans hRS hTR)),
  fun n i hn hi z hz j hj=>hint (Nat.le_trans (mX (N:=N+m+m) j O) (Nat.pow_le_pow_right O O)),fun n hn j hj=>hint (Nat.le_trans (mX (N:=N+m+m) j O) (Nat.pow_le_pow_right O O)),fun n hn=>?_,fun n i k hn hmn hi hk=>?_⟩
 ·obtain⟨X,h0,hX,hb⟩:=hco (n+1) O;refine big h0 (hb _ (by rw[aN];simp)) ?_ ?_
  ·exact Nat.le_trans (Nat.le_trans hX (Nat.pow_le_pow_right hQ1 O)) (Nat.le_mul_of_pos_left _ hD)
  ·exact Nat.mul_le_mul_left _ (Nat.pow_le_pow_right hR1 O)
 ·obtain⟨X,h0,hX,hb⟩:=hco n O;have hFz:=QK (m:=m) (N:=N) (n:=n) hn;have hil:i<=m:=by have:=C.ql;omega
  have ho:=CY C.d0 h0 C.hq hb hFz hmn i O
  have hp:(q.getD i []).length<=L/\∀b∈q.getD i [],Bd D S b:=by
   rw[List.getD_eq_getElem?_getD];cases h:q[i]? with
   | none=>exact⟨Nat.zero_le _,fun b hb=>by cases hb⟩
   | some p=>exact C.hq p (List.mem_of_getElem? h)
  have hin:=CI C.d0 h0 hp.2 hb (hFz i hil) hil ho k O hmn;refine big (Nat.mul_ne_zero C.d0 h0) hin (Nat.mul_le_mul_left _ (Nat.le_trans hX (Nat.pow_le_pow_right hQ1 O))) ?_;have hkL:k<=L:=by have:=hp.1;omega
  have h1:i*(L*(S*iK m N*(T*dk m N D S L^n)))+k*(S*iK m N*(T*dk m N D S L^n))<=(m+1)*(L*(S*iK m N*(T*dk m N D S L^n))):=by
   rw[Nat.add_mul m 1,Nat.one_mul];exact Nat.add_le_add (Nat.mul_le_mul_right _ hil) (Nat.mul_le_mul_right _ hkL)
  refine Nat.le_trans h1 ?_;have h2:(m+1)*(L*(S*iK m N*(T*dk m N D S L^n)))=T*(dk m N D S L^n*((m+1)*(L*(S*iK m N)))):=by ac_rfl
  rw[h2];refine Nat.mul_le_mul_left _ ?_;refine Nat.le_trans (Nat.mul_le_mul_left _ (Nat.le_mul_of_pos_right _ hD)) ?_;show dk m N D S L^n*dk m N D S L<=_;rw[<-Nat.pow_succ];exact Nat.pow_le_pow_right hR1 O
end Ord
namespace Ord
def sm(f:Nat->Rat):Nat->Rat
 | 0=>0
 | n+1=>sm f n+f n
theorem aw{f g:Nat->Rat}:∀{n:Nat},(∀i,i<n->f i=g i)->sm f n=sm g n
 | 0,_=>rfl
 | n+1,h=>by rw[sm,sm,aw (n:=n) (fun i hi=>h i O),h n O]
theorem qZ{f:Nat->Rat}{n:Nat}:∀{m:Nat},n<=m->(∀i,n<=i->i<m->f i=0)->sm f m=sm f n
 | 0,h,_=>by rw[show n=0 by omega]
 | m+1,h,h0=>by
   rcases Nat.lt_or_ge m n with h1 | h1
   ·rw[show n=m+1 by omega]
   ·rw[sm,qZ h1 (fun i h2 h3=>h0 i h2 O),h0 m h1 O];grind
def Ze(l:List Rat)(i s:Nat)(a:Rat)(h:i<l.length):(l.set i a).getD s 0=if s=i then a else l.getD s 0:=by
 rw[List.getD_eq_getElem?_getD,List.getD_eq_getElem?_getD,List.getElem?_set];split
 ·rename_i e;subst e;rw[if_pos rfl];simp[h]
 ·rename_i e;rw[if_neg (fun x=>e x.symm)]
def Kj{l:List Rat}{s:Nat}(h:l.length<=s:=by omega):l.getD s 0=0:=by
 rw[List.getD_eq_getElem?_getD,List.getElem?_eq_none h];rfl
def cv(p q:List Rat)(s:Nat):Rat:=sm (fun j=>p.getD j 0*q.getD (s-j) 0) (s+1)
def dCo(a:List Rat)(i s:Nat):Rat:=a.getD (s+i) 0*((aq ((s+i:Nat):Int) i:Int):Rat)
def yT(a b:Int):((a*b:Int):Rat)=(a:Rat)*(b:Rat):=Rat.intCast_mul a b
def tW(q:List (List Rat))(a:List Rat)(s i κ:Nat):Rat:=(q.getD i []).getD κ 0*dCo a i (s-κ)
def Ny{p a A:List Rat}{m s i:Nat}{x:Rat}(hi:i<=m)(hA:∀j,j<s+m->A.getD j 0=a.getD j 0) :
  ∀K,K<=s+1->inner p A m (s+m) i x K=x-sm (fun κ=>if i<m+κ then p.getD κ 0*dCo a i (s-κ)else 0) K
 | 0,_=>by rw[inner,sm];grind
 | K+1,hK=>by
   have ih:=Ny (p:=p) (x:=x) hi hA K O;rw[inner,sm];by_cases h:i<m+K
   ·rw[if_pos h,if_pos h,ih,hA _ O,dCo];have e1:((s+m:Nat):Int)-((m:Int)+(K:Int)-(i:Int))=((s-K+i:Nat):Int):=O
    have e2:s+m-(m+K-i)=s-K+i:=O
    rw[e1,e2];grind
   ·rw[if_neg h,if_neg h,ih];grind
def VN{p a A:List Rat}{m s i:Nat}{x:Rat}(hA:∀j,j<s+m->A.getD j 0=a.getD j 0)(hi:i<=m:=by omega) :
  inner p A m (s+m) i x (min p.length (s+m-m+1))=x-sm (fun κ=>if i<m+κ then p.getD κ 0*dCo a i (s-κ)else 0) (s+1):=by
 rw[Ny hi hA _ O]
 congr 1
 refine(qZ O fun k h1 h2=>?_).symm;show(if i<m+k then _ else _)=(0:Rat);rw[Kj (l:=p)];split<;>grind
def OU{q:List (List Rat)}{a A:List Rat}{m s:Nat}(hA:∀j,j<s+m->A.getD j 0=a.getD j 0) :
  ∀i,i<=m+1->outer q A m (s+m) i=- sm (fun i=>sm (fun κ=>if i<m+κ then tW q a s i κ else 0) (s+1)) i
 | 0,_=>by rw[outer,sm];grind
 | i+1,hi=>by
   rw[outer,VN hA,OU hA i O];show _=- (sm (fun i=>sm (fun κ=>if i<m+κ then tW q a s i κ else 0) (s+1)) i+sm (fun κ=>if i<m+κ then tW q a s i κ else 0) (s+1));unfold tW;grind
def bb4{q:List (List Rat)}{m s N:Nat}{lead:Rat}{y:List Rat}(hl:lead≠0)(hql:q.length=m+1)(hq0:(q.getD m []).getD 0 0=lead)(hs:s+m<N:=by omega) :
  sm (fun i=>sm (fun κ=>tW q (aN q m lead y N) s i κ) (s+1)) (m+1)=0:=by
 have hA:∀j,j<s+m->(aN q m lead y (s+m)).getD j 0=(aN q m lead y N).getD j 0:=fun j hj=>by
  rw[<-og q m lead y (k:=s+m) (n:=N),List.getD_eq_getElem?_getD,List.getElem?_take,if_pos hj,List.getD_eq_getElem?_getD]
 have hn:(aN q m lead y N).getD (s+m) 0=kp q m lead y (s+m) (aN q m lead y (s+m)):=by
  have h1:(aN q m lead y (s+m+1)).getD (s+m) 0=(aN q m lead y N).getD (s+m) 0:=by
   rw[<-og q m lead y (k:=s+m+1) (n:=N),List.getD_eq_getElem?_getD,List.getElem?_take,if_pos O,List.getD_eq_getElem?_getD]
  rw[<-h1,aN,List.getD_eq_getElem?_getD,List.getElem?_append_right (by rw[bE];exact Nat.le_refl _),bE,Nat.sub_self];rfl
 generalize hAA:aN q m lead y N=a at *;rw[kp,if_neg O,hql,OU hA (m+1) (Nat.le_refl _)]at hn
 have hf:((aq ((s+m:Nat):Int) m:Int):Rat)≠0:=fun e=>qB (z:=((s+m:Nat):Int)) (i:=m) O (by
  have:=congrArg Rat.num e;simpa using this)
 have h0:tW q a s m 0=lead*dCo a m s:=by rw[tW,hq0,Nat.sub_zero]
 have key:∀i,i<=m+1->sm (fun i=>sm (fun κ=>tW q a s i κ) (s+1)) i=sm (fun i=>sm (fun κ=>if i<m+κ then tW q a s i κ else 0) (s+1)) i+if m<i then tW q a s m 0 else 0:=by
  intro i
  induction i with
  | zero=>intro _;rw[sm,sm,if_neg O];grind
  | succ i ih=>
    intro hi;show sm (fun i=>sm (fun κ=>tW q a s i κ) (s+1)) i+sm (fun κ=>tW q a s i κ) (s+1)=sm (fun i=>sm (fun κ=>if i<m+κ then tW q a s i κ else 0) (s+1)) i+sm (fun κ=>if i<m+κ then tW q a s i κ else 0) (s+1)+_;rw[ih O,if_neg O];rcases Nat.lt_or_ge i m with h | h
    ·rw[if_neg O]
     have e:sm (fun κ=>tW q a s i κ) (s+1)=sm (fun κ=>if i<m+κ then tW q a s i κ else 0) (s+1):=aw fun k _=>by
      show _=if i<m+k then _ else _
      rw[if_pos O]
     rw[e];grind
    ·obtain rfl:i=m:=O
     rw[if_pos O]
     have e:∀K,sm (fun κ=>tW q a s i κ) (K+1)=sm (fun κ=>if i<i+κ then tW q a s i κ else 0) (K+1)+tW q a s i 0:=by
      intro K
      induction K with
      | zero=>
        show 0+tW q a s i 0=0+(if i<i+0 then _ else 0)+tW q a s i 0;rw[if_neg O];grind
      | succ K ih2=>
        show sm (fun κ=>tW q a s i κ) (K+1)+tW q a s i (K+1)=sm (fun κ=>if i<i+κ then tW q a s i κ else 0) (K+1)+(if i<i+(K+1)then tW q a s i (K+1)else 0)+_;rw[ih2,if_pos O];grind
     rw[e];grind
 rw[key (m+1) (Nat.le_refl _),if_pos O,h0,dCo,hn];generalize sm (fun i=>sm (fun κ=>if i<m+κ then tW q a s i κ else 0) (s+1)) (m+1)=X;rw[Rat.div_def]
 have hlf:lead*((aq ((s+m:Nat):Int) m:Int):Rat)≠0:=fun e=>by
  rcases Rat.mul_eq_zero.1 e with e | e
  ·exact hl e
  ·exact hf e
 have hi:=Rat.mul_inv_cancel _ hlf;generalize ((aq ((s+m:Nat):Int) m:Int):Rat)=f at *;generalize (lead*f)⁻¹=g at *
 grind
end Ord
namespace Go.Sy
open Go Go.Proofs Tryz Ord
def ai3:Tr:=bI 2
def bo3:Tr:=pg 0 167 3 (kB 144 4 1 4 167 167 ai3)
def Oz:aM prog f184 bZ [.v (some 4)]=bo3:=by kernel_rfl
def aP8:Tr:=gb 0 0 2 0 167 14 15 (dB 6 4 49 16 (jv 104 7 7 1 7 2 7 3 1 17 18 (pg 8 167 19 (gU 4 64 3 9 13 20 167 (bD 2 1 3 11 (jV 0 11 10))))))
def aQ5:Tr:=vA 0 (au 0 0 8 167 (cU 2 4 0 3 7 9 4 (aH 5 0 aP8 (kB 144 4 3 22 167 167 (bI 6)))))
def ZU:aM prog f186 bZ [.v none,.v (some 4)]=aQ5:=by kernel_rfl
def al9:Tr:=gb 1 0 2 0 167 36 37 (dB 14 4 49 38 (jv 48 11 11 1 11 2 11 3 15 35 39 (pg 16 167 42 (gU 4 64 3 17 41 43 167 (bD 2 1 3 18 (jV 0 19 18))))))
def TG:Tr:=gU 4 64 3 14 41 43 167 (bD 2 1 3 18 (jV 0 16 15))
def bk1:Tr:=gb 0 0 2 0 167 26 27 (dB 9 4 49 28 (jv 48 6 6 1 6 2 6 3 10 25 29 (au 1 0 32 167 (cU 2 12 0 3 31 33 4 (aH 13 0 al9 (pg 11 167 42 TG))))))
def Tv:Tr:=jV 0 13 12
def aC6:Tr:=au 1 0 32 167 (cU 2 9 0 3 31 33 4 (aH 10 0 (gb 1 0 2 0 167 36 37 (dB 11 4 49 38 (jv 48 6 6 1 6 2 6 3 12 35 39 (pg 13 167 42 TG)))) (pg 6 167 42 (gU 4 64 3 11 41 43 167 (bD 2 1 3 18 Tv)))))
def ao9:Tr:=gb 1 0 2 0 167 36 37 (dB 16 4 49 38 (jv 48 13 13 1 13 2 13 3 17 35 39 (pg 18 167 42 (gU 4 64 3 19 41 43 167 (bD 2 1 3 18 (jV 0 21 20))))))
def Uy:Tr:=gU 4 64 3 16 41 43 167 (bD 2 1 3 18 (jV 0 18 17))
def aG2:Tr:=gb 0 0 2 0 167 26 27 (dB 11 4 49 28 (jv 48 8 8 1 8 2 8 3 12 25 29 (au 1 0 32 167 (cU 2 14 0 3 31 33 4 (aH 15 0 ao9 (pg 13 167 42 Uy))))))
def aH7:Tr:=au 1 0 32 167 (cU 2 11 0 3 31 33 4 (aH 12 0 (gb 1 0 2 0 167 36 37 (dB 13 4 49 38 (jv 48 8 8 1 8 2 8 3 14 35 39 (pg 15 167 42 Uy)))) (pg 8 167 42 (gU 4 64 3 13 41 43 167 (bD 2 1 3 18 (jV 0 15 14))))))
def av7:Tr:=au 1 0 14 167 (cU 2 6 0 3 13 15 4 (aH 7 0 (lX 50 0 4 2 49 (au 0 0 22 167 (cU 2 9 0 3 21 23 4 (aH 10 0 aG2 aH7)))) (kB 144 4 3 45 167 167 (bI 8))))
def bc4:Tr:=au 0 0 9 167 (cU 2 4 0 3 8 10 4 (aH 5 0 (lX 50 0 4 2 49 (au 0 0 22 167 (cU 2 7 0 3 21 23 4 (aH 8 0 bk1 aC6)))) av7))
def bb2:Tr:=vA 0 bc4
def aW2:aM prog f185 bZ [.v none,.v none]=bb2:=by kernel_rfl
def bn9:Tr:=gb 1 0 3 0 167 17 18 (dB 7 4 49 19 (dV 186 [(W 0 0),(G4 8)] [none] [16,20] [167,49] 167 false (af2 4 64 6 9 15 21 167 (dV 185 [(W 2 0),(.one (.c (.sr 4 10)))] [none] [13,22] [167,167] 167 true (bD 3 1 3 11 (jj 0 11 12))))))
def bl4:Tr:=.loop 0 [lN,lK 0] (au 1 0 8 167 (cU 3 4 0 3 7 9 4 (aH 5 0 (XG 3 167 14 bn9) ai3)))
def bm5:aM prog f187 bZ [.v none,.v none]=bl4:=by kernel_rfl
def aQ4:Tr:=gb 0 0 6 0 167 18 19 (dB 9 4 49 20 (dV 186 [(W 5 0),(G4 10)] [none] [17,21] [167,49] 167 true (oL 185 4 0 11 16 22 167 167 167 (oL 187 5 0 1 24 25 167 167 167 (bD 6 1 3 14 (sW 0 12 13 14))))))
def aS6:Tr:=lX 50 1 4 2 49 (dV 184 [(G4 2)] [none] [8] [49] 167 true (.loop 0 [lN,lV 3 0,lK 0] (au 0 0 11 167 (cU 6 7 0 3 10 12 4 (aH 8 0 aQ4 (bI 4))))))
def Qz:aM prog f106 bZ [.v none,.v none]=aS6:=by kernel_rfl
def ee(p:List RQ)(c:Rat):List RQ:=p.map fun a=>.of (a.q*c)
def fE(p:List RQ)(c:Rat):(ee p c).length=p.length:=aR _
def MU(a:RQ):aL prog 184 [(lT a:aG)] (.ret [.one (sR (eS [a]))]):=by
 refine bw func184 Oz ?_;apply bF (us:=rR [a]);apply aA (tl [a] (by simp));exact aK
def OQ(p:List RQ)(c:RQ)(A B:Nat)(hp:∀x∈p,Fit A x.q)(hc:Fit B c.q)(hB:A+B<=4294967296:=by omega)(hs:p.length<1099511627776:=by omega):aL prog 186 [(.one (sR p):aG),(lT c:aG)] (.ret [.one (sR (eS (ee p c.q)))]):=by
 refine bw func186 ZU ?_;refine ao {i:Nat // i<=p.length} (fun g=>[.one (.int .i64 g.1),.rows (rR (ee (p.take g.1) c.q))]) (fun g=>p.length-g.1) ⟨0,bO _⟩ aQ.rfl (fun _=>rfl) ?_;rintro⟨i,hi⟩;dsimp only[aO,aP]at hi|-;apply vn (aU fg (aR _));apply vn ak;refine vs _ rfl ?_ ?_<;>intro h3
 ·obtain⟨x,hx⟩:∃x,p[i]?=some x:=⟨_,ay O⟩
  apply vn (aZ fg hx);apply vn (bB DV (by decide) (by simp) (.inl rfl));apply aA (sX x c A B (hp x (bc hx)) hc hB);apply bF (us:=rR [.of (x.q*c.q)]);refine oH (xs:=ee (p.take i) c.q) (x:=.of (x.q*c.q)) (f:=rC) rfl rfl (by rw[fE,List.length_take];omega) (by rw[fE,List.length_take];simp only[maxLen];omega) ?_;rw[show ee (p.take i) c.q++[.of (x.q*c.q)]=ee (p.take (i+1)) c.q from mC (f:=fun a:RQ=>RQ.of (a.q*c.q)) hx];apply vn aC;dsimp only[aO,aP];exact aW rfl ⟨⟨i+1,O⟩,aQ.rfl,by show p.length-(i+1)<p.length-i;omega⟩
 rw[show i=p.length by omega,List.take_length];apply aA (tl (ee p c.q) (by rw[fE];exact hs)) rfl;exact aK
def atR(p:List RQ)(i:Nat):Rat:=((p.map RQ.q).getD i 0)
def kj{p:List RQ}{i:Nat}{x:RQ}(h:p[i]?=some x):atR p i=x.q:=by
 rw[atR,cu,cC,h];rfl
def My{p:List RQ}{i:Nat}(h:p.length<=i:=by omega):atR p i=0:=by
 rw[atR,cu,fD (by simpa using h)];rfl
def yU(a b:List RQ)(i:Nat):List RQ:=(List.range i).map fun k=>.of (atR a k+atR b k)
def sE(a b:List RQ)(i:Nat):(yU a b i).length=i:=by simp[yU]
def yd(a b:List RQ)(i:Nat):yU a b i++[.of (atR a i+atR b i)]=yU a b (i+1):=by simp[yU,mM]
def ab7(a b:List RQ)(A B:Nat)(ha:∀x∈a,Fit A x.q)(hb:∀x∈b,Fit B x.q)(hs2:b.length<1099511627776:=by omega)(hB:2*A+2*B<=1073741824:=by omega)(h64:64<=A:=by omega)(h64':64<=B:=by omega)(hs:a.length<1099511627776:=by omega):aL prog 185 [(.one (sR a):aG),(.one (sR b):aG)] (.ret [.one (sR (eS (yU a b (max a.length b.length))))]):=by
 refine bw func185 aW2 ?_;have h0:Fit 64 (RQ.of ((0:Int):Rat)).q:=Fit.zero O;refine ao {i:Nat // i<=max a.length b.length} (fun g=>[.one (.int .i64 g.1),.rows (rR (yU a b g.1))]) (fun g=>max a.length b.length-g.1) ⟨0,bO _⟩ aQ.rfl (fun _=>rfl) ?_;rintro⟨i,hi⟩;dsimp only[aO,aP]at hi|-;have hsl:=sE a b i;apply vn (aU fg (aR _));apply vn ak;refine vs _ rfl ?_ ?_<;>intro h3
 ·apply aA (lG 0);apply vn (aU fg (aR _));apply vn ak;refine vs _ rfl ?_ ?_<;>intro h7
  ·obtain⟨x,hx⟩:∃x,a[i]?=some x:=⟨_,ay O⟩
   have hxA:=ha x (bc hx);apply vn (aZ fg hx);apply vn (bB DV (by decide) (by simp) (.inl rfl));apply aA (sV (.of ((0:Int):Rat)) x 64 A h0 hxA);dsimp only[aO,aP];apply vn (aU fg (aR _));apply vn ak;refine vs _ rfl ?_ ?_<;>intro h13
   ·obtain⟨y,hy⟩:∃y,b[i]?=some y:=⟨_,ay O⟩
    apply vn (aZ fg hy);apply vn (bB DV (by decide) (by simp) (.inl rfl));apply aA (sV (.of ((RQ.of ((0:Int):Rat)).q+x.q)) y (64+A+1) B (h0.add hxA) (hb y (bc hy)));rw[show(RQ.of ((RQ.of ((0:Int):Rat)).q+x.q)).q+y.q=atR a i+atR b i by rw[kj hx,kj hy];show((0:Int):Rat)+x.q+y.q=_;grind];apply bF (us:=rR [.of (atR a i+atR b i)]);refine oH (xs:=yU a b i) (x:=.of (atR a i+atR b i)) (f:=rC) rfl rfl O (by simp only[maxLen];omega) ?_;rw[yd];apply vn aC;dsimp only[aO,aP];exact aW rfl ⟨⟨i+1,O⟩,aQ.rfl,by show max a.length b.length-(i+1)<max a.length b.length-i;omega⟩
   rw[show(RQ.of ((0:Int):Rat)).q+x.q=atR a i+atR b i by rw[kj hx,My (p:=b)];show((0:Int):Rat)+x.q=_;grind];apply bF (us:=rR [.of (atR a i+atR b i)]);refine oH (xs:=yU a b i) (x:=.of (atR a i+atR b i)) (f:=rC) rfl rfl O (by simp only[maxLen];omega) ?_;rw[yd];apply vn aC;dsimp only[aO,aP];exact aW rfl ⟨⟨i+1,O⟩,aQ.rfl,by show max a.length b.length-(i+1)<max a.length b.length-i;omega⟩
  exfalso;omega
 apply vn (aU fg (aR _));apply vn ak;refine vs _ rfl ?_ ?_<;>intro h41
 ·apply aA (lG 0);apply vn (aU fg (aR _));apply vn ak;refine vs _ rfl ?_ ?_<;>intro h45
  ·exfalso;omega
  apply vn (aU fg (aR _));apply vn ak;refine vs _ rfl ?_ ?_<;>intro h65
  ·obtain⟨y,hy⟩:∃y,b[i]?=some y:=⟨_,ay O⟩
   apply vn (aZ fg hy);dsimp only[aO,aP];apply vn (bB DV (by decide) (by simp) (.inl rfl));apply aA (sV (.of ((0:Int):Rat)) y 64 B h0 (hb y (bc hy)));rw[show(RQ.of ((0:Int):Rat)).q+y.q=atR a i+atR b i by rw[kj hy,My (p:=a)];show((0:Int):Rat)+y.q=_;grind];apply bF (us:=rR [.of (atR a i+atR b i)]);refine oH (xs:=yU a b i) (x:=.of (atR a i+atR b i)) (f:=rC) rfl rfl O (by simp only[maxLen];omega) ?_;rw[yd];apply vn aC;dsimp only[aO,aP];exact aW rfl ⟨⟨i+1,O⟩,aQ.rfl,by show max a.length b.length-(i+1)<max a.length b.length-i;omega⟩
  exfalso;omega
 rw[show i=max a.length b.length by omega];apply aA (tl (yU a b (max a.length b.length)) (by rw[sE];omega)) rfl;exact aK
def Ro(a b:List RQ):List RQ:=eS (yU a b (max a.length b.length))
def pW(p:List RQ):(eS p).length<=p.length:=by rw[vx];exact iI p
def TU(a b:List RQ):(Ro a b).length<=max a.length b.length:=Nat.le_trans (pW _) (by rw[sE];exact aY _)
def mulR(a b:List RQ):Nat->List RQ
 | 0=>[]
 | i+1=>Ro (mulR a b i) (List.replicate i .nil++eS (ee a (atR b i)))
theorem JJ(a b:List RQ):∀i,(mulR a b i).length<=a.length+i
 | 0=>bO _
 | i+1=>by
   rw[mulR];refine Nat.le_trans (TU _ _) ?_;have h1:=JJ a b i;have h2:=pW (ee a (atR b i));rw[fE]at h2;rw[eZ,my];omega
def bf7(n:Nat)(us:List RQ):ae (ae aE.Sub) (List.replicate n z4++rR us) (rR (List.replicate n .nil++us)):=by
 rw[show rR (List.replicate n RQ.nil++us)=List.replicate n (rC .nil)++rR us by rw[rR,eG,sK]];exact ae.append (sA xD n) (ae.mU (ae.mU aE.Sub.refl) _)
def br6(a b:List RQ)(A B F:Nat)(ha:∀x∈a,Fit A x.q)(hb:∀x∈b,Fit B x.q)(hF:∀i,i<=b.length->∀x∈mulR a b i,Fit F x.q)(hs2:b.length<=1073741824)(hB:2*F+2*(A+B)<=1073741824:=by omega)(h64:64<=A:=by omega)(h64':64<=F:=by omega)(hs:a.length<=1073741824:=by omega):aL prog 187 [(.one (sR a):aG),(.one (sR b):aG)] (.ret [.one (sR (mulR a b b.length))]):=by
 refine bw func187 bm5 ?_;refine ao {i:Nat // i<=b.length} (fun g=>[.one (sR (mulR a b g.1)),.one (.int .i64 g.1)]) (fun g=>b.length-g.1) ⟨0,bO _⟩ ⟨aE.Sub.nil,aG.Sub.same,trivial⟩ (fun _=>rfl) ?_;rintro⟨i,hi⟩;dsimp only[aO,aP]at hi|-;apply vn (aU fg (aR _));apply vn ak;refine vs _ rfl ?_ ?_<;>intro h3
 ·obtain⟨x,hx⟩:∃x,b[i]?=some x:=⟨_,ay O⟩
  have hat:=kj hx;have hml:=JJ a b i;have htl:=pW (ee a x.q);rw[fE]at htl;have hlen:(List.replicate i z4++rR (eS (ee a x.q))).length=i+(eS (ee a x.q)).length:=by rw[eZ,my,aR]
  refine sJ (n:=i) (m:=i) (us:=List.replicate i z4) rfl rfl rfl (aY _) O (by simp only[maxLen];omega) ?_;apply vn (aZ fg hx);apply vn (bB DV (by decide) (by simp) (.inl rfl));apply aA (OQ a x A B ha (hb x (bc hx)));refine pK (ts:=List.replicate i z4) (us:=rR (eS (ee a x.q))) (vs:=List.replicate i z4++rR (eS (ee a x.q))) rfl (.inr aE.Sub.same) rfl (by rw[hlen];omega) (by rw[hlen];simp only[maxLen];omega) ?_;dsimp only[aO,aP];refine Jq (show aQ _ [.one (sR (mulR a b i)),.one (sR (List.replicate i .nil++eS (ee a x.q)))]from⟨aG.Sub.same,aE.Sub.slice (bf7 i _),trivial⟩) (ab7 _ _ F (A+B) (hF i hi) (fun y hy=>?_) (by rw[eZ,my];omega)) rfl ?_
  ·rcases List.mem_append.1 hy with h | h
   ·rw[(List.mem_replicate.1 h).2];exact Fit.zero O
   ·obtain⟨u,hu,rfl⟩:=gn.1 (List.mem_of_mem_take h);exact(ha u hu).mul (hb x (bc hx))
  apply vn aC;dsimp only[aO,aP];exact aW rfl ⟨⟨i+1,O⟩,aQ.of_eq (by dsimp only;rw[mulR,hat];rfl),by show b.length-(i+1)<b.length-i;omega⟩
 rw[show b.length=i by omega];exact aK
def pL(q:List RQ):Nat->List RQ
 | 0=>eS [.of ((1:Int):Rat)]
 | i+1=>mulR (pL q i) q q.length
theorem KB(q:List RQ):∀i,(pL q i).length<=1+i*q.length
 | 0=>by rw[pL,oV];exact pW _
 | i+1=>by
   have h1:=JJ (pL q i) q q.length;have h2:=KB q i;rw[pL,Nat.add_mul];omega
def ic(p q:List RQ):Nat->List RQ
 | 0=>[]
 | i+1=>Ro (ic p q i) (eS (ee (pL q i) (atR p i)))
theorem Fg(p q:List RQ):∀i,(ic p q i).length<=1+i*q.length
 | 0=>bO _
 | i+1=>by
   have h1:=Fg p q i;have h2:=KB q i;have h3:=pW (ee (pL q i) (atR p i));rw[fE]at h3;rw[ic,Nat.add_mul];refine Nat.le_trans (TU _ _) ?_;omega
structure OV(F:Nat)(p q:List RQ):Prop where
 fp:∀x∈p,Fit F x.q
 fq:∀x∈q,Fit F x.q
 fw:∀i,i<=p.length->∀x∈pL q i,Fit F x.q
 fm:∀i,i<=p.length->∀j,j<=q.length->∀x∈mulR (pL q i) q j,Fit F x.q
 fc:∀i,i<=p.length->∀x∈ic p q i,Fit F x.q
def Qd(p q:List RQ)(F:Nat)(C:OV F p q)(hF:F<=100000000)(h64:64<=F)(hl:1+(p.length+1)*q.length<=1073741824)(hs:p.length<=1073741824):aL prog 106 [(.one (sR p):aG),(.one (sR q):aG)] (.ret [.one (sR (ic p q p.length))]):=by
 refine bw func106 Qz ?_;have hql:q.length<=1073741824:=by rw[Nat.add_mul]at hl;omega
 apply aA (lG 1);apply aA (MU (.of ((1:Int):Rat)));refine ao {i:Nat // i<=p.length} (fun g=>[.one (sR (ic p q g.1)),.one (sR (pL q g.1)),.one (.int .i64 g.1)]) (fun g=>p.length-g.1) ⟨0,bO _⟩ ⟨aE.Sub.nil,aG.Sub.same,aG.Sub.same,trivial⟩ (fun _=>rfl) ?_;rintro⟨i,hi⟩;dsimp only[aO,aP]at hi|-;apply vn (aU fg (aR _));apply vn ak;refine vs _ rfl ?_ ?_<;>intro h5
 ·obtain⟨x,hx⟩:∃x,p[i]?=some x:=⟨_,ay O⟩
  have hat:=kj hx;have hxF:=C.fp x (bc hx);have hw:=KB q i;have hcl:=Fg p q i;have hil:i*q.length<=(p.length+1)*q.length:=Nat.mul_le_mul_right _ O;have htl:=pW (ee (pL q i) x.q);rw[fE]at htl;apply vn (aZ fg hx);apply vn (bB DV (by decide) (by simp) (.inl rfl));apply aA (OQ (pL q i) x F F (C.fw i hi) hxF)
  refine aA (ab7 (ic p q i) (eS (ee (pL q i) x.q)) F (F+F) (C.fc i hi) (fun y hy=>by
   obtain⟨u,hu,rfl⟩:=gn.1 (List.mem_of_mem_take hy);exact(C.fw i hi u hu).mul hxF)) rfl ?_
  apply aA (br6 (pL q i) q F F F (C.fw i hi) C.fq (C.fm i hi) hql);apply vn aC;dsimp only[aO,aP];exact aW rfl ⟨⟨i+1,O⟩,aQ.of_eq (by dsimp only;rw[ic,pL,hat];rfl),by show p.length-(i+1)<p.length-i;omega⟩
 rw[show p.length=i by omega];exact aK
def bt8:Tr:=bm 6 167 16 (DR 50 1 4 49 (.need (.lit 4 [[(.u 1 0),(.u 1 1),(.u 1 2),(.u 1 3)],[(.u 8 0),(.u 8 1),(.u 8 2),(.u 8 3)]]) (.buildSlice 167 2 #[(0,(tT 18)),(1,(tT 19))]) 167 false (dV 106 [(W 7 0),(.one (.c (.sr 4 9)))] [none] [17,20] [167,167] 167 true (pa 10 44 21 (gU 1 24 3 11 13 22 44 (bD 2 1 3 11 Tv))))))
def bk6:Tr:=vA 0 (au 0 0 8 44 (cU 2 4 0 3 7 9 4 (aH 5 0 (gb 0 0 2 0 44 14 15 bt8) (uw 1 3))))
def ae0:aM prog f125 bZ [.v none,.v (some 4)]=bk6:=by kernel_rfl
def Ui(e:List (List RQ))(c:RQ):List (List RQ):=e.map fun p=>ic p [c,.of ((1:Int):Rat)] p.length
def Xl(e:List (List RQ))(c:RQ)(F:Nat)(C:∀p∈e,OV F p [c,.of ((1:Int):Rat)]/\p.length<=1048576)(hF:F<=100000000)(h64:64<=F)(hs:e.length<1048576:=by omega):aL prog 125 [(.one (eR e):aG),(lT c:aG)] (.ret [.one (eR (Ui e c))]):=by
 refine bw func125 ae0 ?_;refine ao {i:Nat // i<=e.length} (fun g=>[.one (.int .i64 g.1),.rows ((Ui (e.take g.1) c).map cR)]) (fun g=>e.length-g.1) ⟨0,bO _⟩ aQ.rfl (fun _=>rfl) ?_;rintro⟨i,hi⟩;dsimp only[aO,aP]at hi|-;have hsl:(Ui (e.take i) c).length=i:=by rw[Ui,aR,List.length_take];omega
 apply vn (aU yM (aR _));apply vn ak;refine vs _ rfl ?_ ?_<;>intro h3
 ·obtain⟨p,hp⟩:∃p,e[i]?=some p:=⟨_,ay O⟩
  obtain⟨hC,hl⟩:=C p (bc hp);apply vn (aZ yM hp);apply vn (av wC);apply aA (lG 1);apply bF (us:=rR [c,.of ((1:Int):Rat)]);apply aA (Qd p [c,.of ((1:Int):Rat)] F hC hF h64 (by simp only[List.length_cons,bq];omega) O) rfl;apply bF (us:=[cR (ic p [c,.of ((1:Int):Rat)] p.length)]);dsimp only[aO,aP];refine oH (xs:=Ui (e.take i) c) (x:=ic p [c,.of ((1:Int):Rat)] p.length) (f:=cR) rfl rfl O (by simp only[maxLen];omega) ?_;rw[show Ui (e.take i) c++[ic p [c,.of ((1:Int):Rat)] p.length]=Ui (e.take (i+1)) c from mC (f:=fun p:List RQ=>ic p [c,.of ((1:Int):Rat)] p.length) hp];apply vn aC;dsimp only[aO,aP];exact aW rfl ⟨⟨i+1,O⟩,aQ.rfl,by show e.length-(i+1)<e.length-i;omega⟩
 rw[show i=e.length by omega,List.take_length];exact aK
theorem Fq{B:Nat}{q:List (List Rat)}{m:Nat}{lead:Rat}{y:List Rat}{N:Nat}(C:gm B q m lead y N):∀{n:Nat},n<=N->∀{b:Rat},b∈aN q m lead y n->Fit B b
 | 0,_,b,hb=>by cases hb
 | n+1,hn,b,hb=>by
   rw[aN]at hb;rcases List.mem_append.1 hb with h | h
   ·exact Fq C O h
   ·rw[fH.1 h];exact C.fa n O
def YN(a b:List RQ):(Ro a b).map RQ.q=Kt (a.map RQ.q) (b.map RQ.q):=by
 rw[Ro,pq,Kt,aR,aR,yU,eU];rfl
def TD(x:Rat)(a b:List RQ):ev ((Ro a b).map RQ.q) x=ev (a.map RQ.q) x+ev (b.map RQ.q) x:=by rw[YN,Sb]
def Iy(x:Rat)(p:List RQ)(c:Rat):ev ((eS (ee p c)).map RQ.q) x=ev (p.map RQ.q) x*c:=by
 rw[pq,tw,ee,eU,show(RQ.q ∘ fun a:RQ=>RQ.of (a.q*c))=(fun a=>a*c) ∘ RQ.q from rfl,<-eU,RU]
theorem Sh(x:Rat)(a b:List RQ):∀i,i<=b.length->ev ((mulR a b i).map RQ.q) x=ev (a.map RQ.q) x*ev ((b.map RQ.q).take i) x
 | 0,_=>by rw[mulR,ma];show(0:Rat)=_;rw[cP];grind
 | i+1,hi=>by
   obtain⟨z,hz⟩:∃z,b[i]?=some z:=⟨_,ay O⟩
   have hz':(b.map RQ.q)[i]?=some z.q:=by rw[cC,hz];rfl
   rw[mulR,TD,Sh x a b i O,eG,HM,sK,show RQ.q .nil=0 from rfl,PN,my,Iy,kj hz,jY hz']
   grind
theorem Ss(x:Rat)(q:List RQ):∀i,ev ((pL q i).map RQ.q) x=ev (q.map RQ.q) x^i
 | 0=>by
   rw[pL,pq,tw,ej];show ev [((1:Int):Rat)] x=1;rw[ai,cP];grind
 | i+1=>by
   rw[pL,Sh x _ q q.length (aY _),Ss x q i,gM,List.take_of_length_le (by rw[aR];exact aY _)]
theorem OA(x:Rat)(p q:List RQ):∀i,i<=p.length->ev ((ic p q i).map RQ.q) x=ev ((p.map RQ.q).take i) (ev (q.map RQ.q) x)
 | 0,_=>by rw[ic,ma];rfl
 | i+1,hi=>by
   obtain⟨z,hz⟩:∃z,p[i]?=some z:=⟨_,ay O⟩
   have hz':(p.map RQ.q)[i]?=some z.q:=by rw[cC,hz];rfl
   rw[ic,TD,OA x p q i O,Iy,Ss,kj hz,jY hz']
   grind
theorem OP(p q:List RQ):∀i,qy ((ic p q i).map RQ.q)
 | 0=>fun a h=>by cases h
 | i+1=>by rw[ic,YN];exact EI _ _
def ay5(p:List RQ)(c:RQ):(ic p [c,.of ((1:Int):Rat)] p.length).map RQ.q=di (p.map RQ.q) c.q:=by
 refine ag4 (OP _ _ _) (mR _ _) fun x=>?_;rw[OA x p _ p.length (aY _),List.take_of_length_le (by rw[aR];exact aY _),mE]
 congr 1
 show ev [c.q,((1:Int):Rat)] x=_;rw[ai,ai,cP];grind
def bJ2(e:List (List RQ))(c:RQ):uA (Ui e c)=(uA e).map (di · c.q):=by
 rw[uA,Ui,uA,eU,eU];exact mc fun p _=>ay5 p c
end Go.Sy
