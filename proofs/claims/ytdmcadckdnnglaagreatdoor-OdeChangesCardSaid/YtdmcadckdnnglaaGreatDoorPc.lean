/- Part. -/
import Derived.Test.YtdmcadckdnnglaaGreatDoorQf
set_option linter.all false
set_option maxHeartbeats 1000000
namespace Ord
def Bd.inv{E T:Nat}{r:Rat}(h1:E≠0)(h:Bd E T r)(hr:r≠0):Bd r.num.natAbs E r⁻¹:=by
 have hn:r.num≠0:=fun e=>hr (lM.1 e);have hd:=uZ O h.1;unfold Bd;rw[Rat.num_inv,Rat.den_inv,aD hn,dx,ad5 hn,cH,cZ];exact⟨pJ _,an hd (dn _ O)⟩
def Bd.div{D E S T:Nat}{a r:Rat}(h0:D≠0)(h1:E≠0)(ha:Bd D S a)(h:Bd E T r)(hr:r≠0):Bd (D*r.num.natAbs) (S*E) (a/r):=by
 rw[eJ];exact ha.mul h0 (fun e=>hr (lM.1 O)) (h.inv h1 hr)
def Bd.ce0{D S:Nat}{q:Rat}(h0:D≠0)(h:Bd D S q):q.num.natAbs<=S*D:=an h.2 (cd _ (uZ O h.1))
def am4{z:Int}(h:z≠0):(z:Rat)≠0:=fun e=>h (by have:=congrArg Rat.num e;simpa using this)
section
variable{q:j0}{a:j1}{m n D S X A F L:Nat}
def GO{p:j1}{i:Nat}{x:Rat}{Y:Nat}(h0:D≠0)(h1:X≠0)(hp:∀b∈p,Bd D S b)(ha:∀b∈a,Bd X A b)(hF:∀z:Int,z.natAbs<=n+m->(bB z i).natAbs<=F)(hi:i<=m)(hx:Bd (D*X) Y x) :
  ∀k,k<=n-m+1->m<=n->Bd (D*X) (Y+k*(S*F*A)) (inner p a m n i x k)
 | 0,_,_=>by simpa[inner]using hx
 | k+1,hk,hmn=>by
   have ih:=GO h0 h1 hp ha hF hi hx k O hmn;have hm:Y+k*(S*F*A)<=Y+(k+1)*(S*F*A):=by rw[ba];omega
   rw[inner];split
   .have hpk:Bd D S (p.getD k 0):=by
     rw[kB];cases h:p[k]? with
     | none=>exact Bd.zero
     | some b=>exact hp b (pL h)
    have hak:Bd X A (a.getD (n-(m+k-i)) 0):=by
     rw[kB];cases h:a[n-(m+k-i)]? with
     | none=>exact Bd.zero
     | some b=>exact ha b (pL h)
    have hf:Bd 1 F ((bB ((n:Int)-((m:Int)+k-i)) i:Int):Rat):=Bd.int (hF _ O);have h2:=(hpk.mul h0 O hf).mul O h1 hak;rw[dc]at h2;have h3:=ih.sub (da h0 h1) h2;rw[ba,cZ,<-jF];exact h3
   .exact ih.le hm
def Hk(h0:D≠0)(h1:X≠0)(hq:∀p∈q,p.length<=L/\∀b∈p,Bd D S b)(ha:∀b∈a,Bd X A b)(hF:∀i,i<=m->∀z:Int,z.natAbs<=n+m->(bB z i).natAbs<=F)(hmn:m<=n) :
  ∀i,i<=m+1->Bd (D*X) (i*(L*(S*F*A))) (outer q a m n i)
 | 0,_=>by simpa[outer]using Bd.zero
 | i+1,hi=>by
   have ih:=Hk h0 h1 hq ha hF hmn i O
   have hp:(q.getD i []).length<=L/\∀b∈q.getD i [],Bd D S b:=by
    rw[kB];cases h:q[i]? with
    | none=>exact⟨rm _,fun b hb=>by cases hb⟩
    | some p=>exact hq p (pL h)
   rw[outer];refine(GO h0 h1 hp.2 ha (hF i O) O ih _ (Nat.min_le_right _ _) hmn).le ?_;rw[ba i 1,cZ];exact Sc (cg _ (an (Nat.min_le_left _ _) hp.1)) _
end
structure bG0(q:j0)(m:Nat)(lead:Rat)(y:j1)(D S E T L:Nat):Prop where
 d0:D≠0
 e0:E≠0
 s1:1<=S
 t1:1<=T
 l1:1<=L
 hq:∀p∈q,p.length<=L/\∀b∈p,Bd D S b
 hl:Bd D S lead
 l0:lead≠0
 hy:∀b∈y,Bd E T b
 ql:q.length=m+1
def ki(m N:Nat):Nat:=(N+m+m)^m
def om(m N D S E:Nat):Nat:=E*ki m N+D*(S*ki m N*D)
def fJ(m N D S L:Nat):Nat:=(m+1)*(L*(S*ki m N))*D
def XB{m N n:Nat}(hn:n<N):∀i,i<=m->∀z:Int,z.natAbs<=n+m->(bB z i).natAbs<=ki m N:=fun i hi z hz=>
 an (pz (N:=N+m+m) i O) (cB O hi)
def Ab{q:j0}{m:Nat}{lead:Rat}{y:j1}{D S E T L N:Nat}(C:bG0 q m lead y D S E T L)(hmN:m<=N) :
  ∀n,n<=N->∃X,X≠0/\X<=om m N D S E^n/\∀b∈aU q m lead y n,Bd X (T*fJ m N D S L^n) b:=by
 have hF1:1<=N->1<=ki m N:=fun h=>aw O;intro n
 induction n with
 | zero=>exact fun _=>⟨1,O,bY,fun b hb=>by cases hb⟩
 | succ n ih=>
   intro hn;obtain⟨X,hX0,hXQ,hb⟩:=ih O;have hF:=XB (m:=m) (N:=N) (n:=n) O;have hF1:=hF1 O;have hD:=iR C.d0;have hE:=iR C.e0;have hR1:1<=fJ m N D S L:=dN (dN O (dN C.l1 (dN C.s1 hF1))) hD;have hTR:T*fJ m N D S L^n<=T*fJ m N D S L^(n+1):=cd _ (cB hR1 O);have hT:T<=T*fJ m N D S L^(n+1):=dn _ (aw hR1)
   have key:∃u,u≠0/\u<=om m N D S E/\Bd (X*u) (T*fJ m N D S L^(n+1)) (oP q m lead y n (aU q m lead y n)):=by
    unfold oP;split
    .rename_i hnm;have hf0:((bB n n:Int):Rat)≠0:=am4 (tj O);have hfz:(bB n n).natAbs<=ki m N:=hF n O n O
     have hy:Bd E T (y.getD n 0):=by
      rw[kB];cases h:y[n]? with
      | none=>exact Bd.zero
      | some b=>exact C.hy b (pL h)
     have h:=hy.div C.e0 (E:=1) O (Bd.int hfz) hf0;rw[dc,jB]at h;refine⟨E*(bB n n).natAbs,da C.e0 (fun e=>hf0 (by rw[Int.natAbs_eq_zero.1 e];rfl)),?_,h.mono (rV _ _) hT⟩;exact an (cd _ hfz) (uu _ _)
    .rename_i hnm;have hmn:m<=n:=O
     have hf0:((bB n m:Int):Rat)≠0:=am4 (tj O);have hfz:(bB n m).natAbs<=ki m N:=hF m O n O;have hr:=C.hl.mul C.d0 (E:=1) O (Bd.int hfz);rw[dc]at hr
     have hr0:lead*((bB n m:Int):Rat)≠0:=fun e=>by
      rcases nk.1 e with e | e
      .exact C.l0 e
      .exact hf0 e
     have ho:=Hk C.d0 hX0 C.hq hb hF hmn q.length (by rw[C.ql];omega);have h:=ho.div (da C.d0 hX0) C.d0 hr hr0;rw[show D*X*(lead*((bB n m:Int):Rat)).num.natAbs=X*(D*(lead*((bB n m:Int):Rat)).num.natAbs) by rw[cD D X,dC]]at h;refine⟨_,da C.d0 (fun e=>hr0 (lM.1 (Int.natAbs_eq_zero.1 e))),?_,h.le ?_⟩
     .exact an (cd _ (hr.ce0 C.d0)) (Nat.le_add_left _ _)
     .rw[C.ql,bF];unfold fJ;generalize ((m+1)*(L*(S*ki m N))*D)^n=R;refine np ?_
      ac_rfl
   obtain⟨u,hu0,huQ,hu⟩:=key;refine⟨X*u,da hX0 hu0,?_,fun b hbm=>?_⟩
   .rw[bF];exact dE hXQ huQ
   .rw[aU]at hbm;rcases iM.1 hbm with h | h
    .exact(hb b h).mono (nX _ _) hTR
    .rw[eo.1 h];exact hu
def Db(m N D S E T L:Nat):Nat:=D*om m N D S E^N*(T*fJ m N D S L^(N+1))
def am1{q:j0}{m:Nat}{lead:Rat}{y:j1}{D S E T L N B:Nat}(C:bG0 q m lead y D S E T L)(hB:Db m N D S E T L<2^B)(hmN:m<=N:=by omega)(h1N:1<=N:=by omega):jy B q m lead y N:=by
 have hF1:1<=ki m N:=aw O;have hD:=iR C.d0;have hE:=iR C.e0;have hSF:1<=S*ki m N:=dN C.s1 hF1;have hR1:1<=fJ m N D S L:=dN (dN O (dN C.l1 hSF)) hD;have hQ1:1<=om m N D S E:=an (dN hE hF1) (uu _ _);have hQN:1<=om m N D S E^N:=aw hQ1;have hRN:1<=fJ m N D S L^N:=aw hR1
 have hRS:fJ m N D S L<=fJ m N D S L^(N+1):=by
  rw[bF];exact jh _ hRN
 have hEQ:E<=om m N D S E^N:=an (an (dn _ hF1) (uu _ _)) (an (np (zZ _).symm) (cB hQ1 h1N))
 have hSR:S*ki m N<=fJ m N D S L:=by
  refine an ?_ (dn _ hD);refine an ?_ (jh _ O);exact jh _ C.l1
 have hS:S<=fJ m N D S L:=an (dn _ hF1) hSR;have hF:ki m N<=fJ m N D S L:=an (jh _ C.s1) hSR
 have big:∀{X Y:Nat}{x:Rat},X≠0->Bd X Y x->X<=D*om m N D S E^N->Y<=T*fJ m N D S L^(N+1)->Fit B x:=fun {X Y x} h0 h hX hY=>by
  have hV:Y*X<=Db m N D S E T L:=by
   unfold Db;rw[cD (D*om m N D S E^N)];exact dE hY hX
  refine h.fit h0 (cV ?_ hB) (cV hV hB);unfold Db;exact an hX (dn _ (dN C.t1 (aw hR1)))
 have hTR:fJ m N D S L^(N+1)<=T*fJ m N D S L^(N+1):=jh _ C.t1;have hDQ:D<=D*om m N D S E^N:=dn _ hQN;have hint:∀{z:Int},z.natAbs<=ki m N->Fit B (z:Rat):=fun {z} hz=>big (X:=1) O (Bd.int hz) (dN hD hQN) (an hF (an hRS hTR));have hco:=Ab C hmN
 refine⟨big C.d0 C.hl hDQ (an hS (an hRS hTR)),fun x hx=>big C.e0 (C.hy x hx) (an hEQ (jh _ hD)) (dn _ (aw hR1)),fun p hp x hx=>big C.d0 ((C.hq p hp).2 x hx) hDQ (an hS (an hRS hTR)),
  fun n i hn hi z hz j hj=>hint (an (pz (N:=N+m+m) j O) (cB O O)),fun n hn j hj=>hint (an (pz (N:=N+m+m) j O) (cB O O)),fun n hn=>?_,fun n i k hn hmn hi hk=>?_⟩
 .obtain⟨X,h0,hX,hb⟩:=hco (n+1) O;refine big h0 (hb _ (by rw[aU];simp)) ?_ ?_
  .exact an (an hX (cB hQ1 O)) (jh _ hD)
  .exact cd _ (cB hR1 O)
 .obtain⟨X,h0,hX,hb⟩:=hco n O;have hFz:=XB (m:=m) (N:=N) (n:=n) hn;have hil:i<=m:=by have:=C.ql;omega
  have ho:=Hk C.d0 h0 C.hq hb hFz hmn i O
  have hp:(q.getD i []).length<=L/\∀b∈q.getD i [],Bd D S b:=by
   rw[kB];cases h:q[i]? with
   | none=>exact⟨rm _,fun b hb=>by cases hb⟩
   | some p=>exact C.hq p (pL h)
  have hin:=GO C.d0 h0 hp.2 hb (hFz i hil) hil ho k O hmn;refine big (da C.d0 h0) hin (cd _ (an hX (cB hQ1 O))) ?_;have hkL:k<=L:=by have:=hp.1;omega
  have h1:i*(L*(S*ki m N*(T*fJ m N D S L^n)))+k*(S*ki m N*(T*fJ m N D S L^n))<=(m+1)*(L*(S*ki m N*(T*fJ m N D S L^n))):=by
   rw[ba m 1,cZ];exact Sa (cg _ hil) (cg _ hkL)
  refine an h1 ?_;have h2:(m+1)*(L*(S*ki m N*(T*fJ m N D S L^n)))=T*(fJ m N D S L^n*((m+1)*(L*(S*ki m N)))):=by ac_rfl
  rw[h2];refine cd _ ?_;refine an (cd _ (dn _ hD)) ?_;show fJ m N D S L^n*fJ m N D S L<=_;rw[<-bF];exact cB hR1 O
end Ord
namespace Ord
def sm(f:j4):Nat->Rat
 | 0=>0
 | n+1=>sm f n+f n
theorem bK{f g:j4}:∀{n:Nat},(∀i,i<n->f i=g i)->sm f n=sm g n
 | 0,_=>rfl
 | n+1,h=>by rw[sm,sm,bK (n:=n) (fun i hi=>h i O),h n O]
theorem uL{f:j4}{n:Nat}:∀{m:Nat},n<=m->(∀i,n<=i->i<m->f i=0)->sm f m=sm f n
 | 0,h,_=>by rw[show n=0 by omega]
 | m+1,h,h0=>by
   rcases bG m n with h1 | h1
   .rw[show n=m+1 by omega]
   .rw[sm,uL h1 (fun i h2 h3=>h0 i h2 O),h0 m h1 O];grind
def aG2(l:j1)(i s:Nat)(a:Rat)(h:i<l.length):(l.set i a).getD s 0=if s=i then a else l.getD s 0:=by
 rw[kB,kB,Fs];split
 .rename_i e;subst e;rw[aI rfl];simp[h]
 .rename_i e;rw[aD (fun x=>e x.symm)]
def QX{l:j1}{s:Nat}(h:l.length<=s:=by omega):l.getD s 0=0:=by
 rw[kB,gE h];rfl
def cv(p q:j1)(s:Nat):Rat:=sm (fun j=>p.getD j 0*q.getD (s-j) 0) (s+1)
def dCo(a:j1)(i s:Nat):Rat:=a.getD (s+i) 0*((bB ((s+i:Nat):Int) i:Int):Rat)
def Cf(a b:Int):((a*b:Int):Rat)=(a:Rat)*(b:Rat):=uj a b
def tW(q:j0)(a:j1)(s i κ:Nat):Rat:=(q.getD i []).getD κ 0*dCo a i (s-κ)
def Uk{p a A:j1}{m s i:Nat}{x:Rat}(hi:i<=m)(hA:∀j,j<s+m->A.getD j 0=a.getD j 0) :
  ∀K,K<=s+1->inner p A m (s+m) i x K=x-sm (fun κ=>if i<m+κ then p.getD κ 0*dCo a i (s-κ)else 0) K
 | 0,_=>by rw[inner,sm];grind
 | K+1,hK=>by
   have ih:=Uk (p:=p) (x:=x) hi hA K O;rw[inner,sm];by_cases h:i<m+K
   .rw[aI h,aI h,ih,hA _ O,dCo];have e1:((s+m:Nat):Int)-((m:Int)+(K:Int)-(i:Int))=((s-K+i:Nat):Int):=O
    have e2:s+m-(m+K-i)=s-K+i:=O
    rw[e1,e2];grind
   .rw[aD h,aD h,ih];grind
def ap2{p a A:j1}{m s i:Nat}{x:Rat}(hA:∀j,j<s+m->A.getD j 0=a.getD j 0)(hi:i<=m:=by omega) :
  inner p A m (s+m) i x (min p.length (s+m-m+1))=x-sm (fun κ=>if i<m+κ then p.getD κ 0*dCo a i (s-κ)else 0) (s+1):=by
 rw[Uk hi hA _ O]
 congr 1
 refine(uL O fun k h1 h2=>?_).symm;show(if i<m+k then _ else _)=(0:Rat);rw[QX (l:=p)];split<;>grind
def VF{q:j0}{a A:j1}{m s:Nat}(hA:∀j,j<s+m->A.getD j 0=a.getD j 0) :
  ∀i,i<=m+1->outer q A m (s+m) i=- sm (fun i=>sm (fun κ=>if i<m+κ then tW q a s i κ else 0) (s+1)) i
 | 0,_=>by rw[outer,sm];grind
 | i+1,hi=>by
   rw[outer,ap2 hA,VF hA i O];show _=- (sm (fun i=>sm (fun κ=>if i<m+κ then tW q a s i κ else 0) (s+1)) i+sm (fun κ=>if i<m+κ then tW q a s i κ else 0) (s+1));unfold tW;grind
def bO5{q:j0}{m s N:Nat}{lead:Rat}{y:j1}(hl:lead≠0)(hql:q.length=m+1)(hq0:(q.getD m []).getD 0 0=lead)(hs:s+m<N:=by omega) :
  sm (fun i=>sm (fun κ=>tW q (aU q m lead y N) s i κ) (s+1)) (m+1)=0:=by
 have hA:∀j,j<s+m->(aU q m lead y (s+m)).getD j 0=(aU q m lead y N).getD j 0:=fun j hj=>by
  rw[<-sD q m lead y (k:=s+m) (n:=N),kB,fi,aI hj,kB]
 have hn:(aU q m lead y N).getD (s+m) 0=oP q m lead y (s+m) (aU q m lead y (s+m)):=by
  have h1:(aU q m lead y (s+m+1)).getD (s+m) 0=(aU q m lead y N).getD (s+m) 0:=by
   rw[<-sD q m lead y (k:=s+m+1) (n:=N),kB,fi,aI O,kB]
  rw[<-h1,aU,kB,jP (by rw[bg];exact jI _),bg,jj];rfl
 generalize hAA:aU q m lead y N=a at *;rw[oP,aD O,hql,VF hA (m+1) (jI _)]at hn
 have hf:((bB ((s+m:Nat):Int) m:Int):Rat)≠0:=fun e=>tj (z:=((s+m:Nat):Int)) (i:=m) O (by
  have:=congrArg Rat.num e;simpa using this)
 have h0:tW q a s m 0=lead*dCo a m s:=by rw[tW,hq0,QR]
 have key:∀i,i<=m+1->sm (fun i=>sm (fun κ=>tW q a s i κ) (s+1)) i=sm (fun i=>sm (fun κ=>if i<m+κ then tW q a s i κ else 0) (s+1)) i+if m<i then tW q a s m 0 else 0:=by
  intro i
  induction i with
  | zero=>intro _;rw[sm,sm,aD O];grind
  | succ i ih=>
    intro hi;show sm (fun i=>sm (fun κ=>tW q a s i κ) (s+1)) i+sm (fun κ=>tW q a s i κ) (s+1)=sm (fun i=>sm (fun κ=>if i<m+κ then tW q a s i κ else 0) (s+1)) i+sm (fun κ=>if i<m+κ then tW q a s i κ else 0) (s+1)+_;rw[ih O,aD O];rcases bG i m with h | h
    .rw[aD O]
     have e:sm (fun κ=>tW q a s i κ) (s+1)=sm (fun κ=>if i<m+κ then tW q a s i κ else 0) (s+1):=bK fun k _=>by
      show _=if i<m+k then _ else _
      rw[aI O]
     rw[e];grind
    .obtain rfl:i=m:=O
     rw[aI O]
     have e:∀K,sm (fun κ=>tW q a s i κ) (K+1)=sm (fun κ=>if i<i+κ then tW q a s i κ else 0) (K+1)+tW q a s i 0:=by
      intro K
      induction K with
      | zero=>
        show 0+tW q a s i 0=0+(if i<i+0 then _ else 0)+tW q a s i 0;rw[aD O];grind
      | succ K ih2=>
        show sm (fun κ=>tW q a s i κ) (K+1)+tW q a s i (K+1)=sm (fun κ=>if i<i+κ then tW q a s i κ else 0) (K+1)+(if i<i+(K+1)then tW q a s i (K+1)else 0)+_;rw[ih2,aI O];grind
     rw[e];grind
 rw[key (m+1) (jI _),aI O,h0,dCo,hn];generalize sm (fun i=>sm (fun κ=>if i<m+κ then tW q a s i κ else 0) (s+1)) (m+1)=X;rw[eJ]
 have hlf:lead*((bB ((s+m:Nat):Int) m:Int):Rat)≠0:=fun e=>by
  rcases nk.1 e with e | e
  .exact hl e
  .exact hf e
 have hi:=Fb _ hlf;generalize ((bB ((s+m:Nat):Int) m:Int):Rat)=f at *;generalize (lead*f)⁻¹=g at *
 grind
end Ord
namespace Go.Sy
open Go Go.Proofs Tryz Ord
def aU4:Tr:=cC 2
def cb7:Tr:=tU 0 167 3 (mz 144 4 1 4 167 167 aU4)
def Vj:aO prog f184 cT [.v (some 4)]=cb7:=aT
def bC6:Tr:=jL 0 0 2 0 167 14 15 (dK 6 4 49 16 (nE 104 7 7 1 7 2 7 3 1 17 18 (tU 8 167 19 (jk 4 64 3 9 13 20 167 (bX 2 1 3 11 (mL 0 11 10))))))
def bD3:Tr:=zB 0 (bD 0 0 8 167 (dW 2 4 0 3 7 9 4 (aJ 5 0 bC6 (mz 144 4 3 22 167 167 (cC 6)))))
def aL2:aO prog f186 cT [.v none,.v (some 4)]=bD3:=aT
def aX5:Tr:=jL 1 0 2 0 167 36 37 (dK 14 4 49 38 (nE 48 11 11 1 11 2 11 3 15 35 39 (tU 16 167 42 (jk 4 64 3 17 41 43 167 (bX 2 1 3 18 (mL 0 19 18))))))
def ac4:Tr:=jk 4 64 3 14 41 43 167 (bX 2 1 3 18 (mL 0 16 15))
def bX5:Tr:=jL 0 0 2 0 167 26 27 (dK 9 4 49 28 (nE 48 6 6 1 6 2 6 3 10 25 29 (bD 1 0 32 167 (dW 2 12 0 3 31 33 4 (aJ 13 0 aX5 (tU 11 167 42 ac4))))))
def ab1:Tr:=mL 0 13 12
def bo6:Tr:=bD 1 0 32 167 (dW 2 9 0 3 31 33 4 (aJ 10 0 (jL 1 0 2 0 167 36 37 (dK 11 4 49 38 (nE 48 6 6 1 6 2 6 3 12 35 39 (tU 13 167 42 ac4)))) (tU 6 167 42 (jk 4 64 3 11 41 43 167 (bX 2 1 3 18 ab1)))))
def ba5:Tr:=jL 1 0 2 0 167 36 37 (dK 16 4 49 38 (nE 48 13 13 1 13 2 13 3 17 35 39 (tU 18 167 42 (jk 4 64 3 19 41 43 167 (bX 2 1 3 18 (mL 0 21 20))))))
def ai0:Tr:=jk 4 64 3 16 41 43 167 (bX 2 1 3 18 (mL 0 18 17))
def bs4:Tr:=jL 0 0 2 0 167 26 27 (dK 11 4 49 28 (nE 48 8 8 1 8 2 8 3 12 25 29 (bD 1 0 32 167 (dW 2 14 0 3 31 33 4 (aJ 15 0 ba5 (tU 13 167 42 ai0))))))
def bt9:Tr:=bD 1 0 32 167 (dW 2 11 0 3 31 33 4 (aJ 12 0 (jL 1 0 2 0 167 36 37 (dK 13 4 49 38 (nE 48 8 8 1 8 2 8 3 14 35 39 (tU 15 167 42 ai0)))) (tU 8 167 42 (jk 4 64 3 13 41 43 167 (bX 2 1 3 18 (mL 0 15 14))))))
def bh4:Tr:=bD 1 0 14 167 (dW 2 6 0 3 13 15 4 (aJ 7 0 (og 50 0 4 2 49 (bD 0 0 22 167 (dW 2 9 0 3 21 23 4 (aJ 10 0 bs4 bt9)))) (mz 144 4 3 45 167 167 (cC 8))))
def bP6:Tr:=bD 0 0 9 167 (dW 2 4 0 3 8 10 4 (aJ 5 0 (og 50 0 4 2 49 (bD 0 0 22 167 (dW 2 7 0 3 21 23 4 (aJ 8 0 bX5 bo6)))) bh4))
def bO4:Tr:=zB 0 bP6
def bJ3:aO prog f185 cT [.v none,.v none]=bO4:=aT
def cb3:Tr:=jL 1 0 3 0 167 17 18 (dK 7 4 49 19 (eO 186 [W 0 0,G4 8] [none] [16,20] [167,49] 167 false (aw2 4 64 6 9 15 21 167 (eO 185 [W 2 0,.one (.c (.sr 4 10))] [none] [13,22] [167,167] 167 true (bX 3 1 3 11 (kA 0 11 12))))))
def bY6:Tr:=.loop 0 [lN,lK 0] (bD 1 0 8 167 (dW 3 4 0 3 7 9 4 (aJ 5 0 (aK5 3 167 14 cb3) aU4)))
def bZ7:aO prog f187 cT [.v none,.v none]=bY6:=aT
def bD2:Tr:=jL 0 0 6 0 167 18 19 (dK 9 4 49 20 (eO 186 [W 5 0,G4 10] [none] [17,21] [167,49] 167 true (rz 185 4 0 11 16 22 167 167 167 (rz 187 5 0 1 24 25 167 167 167 (bX 6 1 3 14 (vM 0 12 13 14))))))
def bF7:Tr:=og 50 1 4 2 49 (eO 184 [G4 2] [none] [8] [49] 167 true (.loop 0 [lN,lV 3 0,lK 0] (bD 0 0 11 167 (dW 6 7 0 3 10 12 4 (aJ 8 0 bD2 (cC 4))))))
def Xp:aO prog f106 cT [.v none,.v none]=bF7:=aT
def gY(p:List RQ)(c:Rat):List RQ:=p.map fun a=>.of (a.q*c)
def iH(p:List RQ)(c:Rat):(gY p c).length=p.length:=aX _
def TA(a:RQ):aK prog 184 [(oU a:aF)] (.ret [.one (sR (gI [a]))]):=by
 refine dB func184 Vj ?_;apply bh (us:=rR [a]);apply aA (xW [a] bY);exact aN
def VB(p:List RQ)(c:RQ)(A B:Nat)(hp:∀x∈p,Fit A x.q)(hc:Fit B c.q)(hB:A+B<=4294967296:=by omega)(hs:p.length<1099511627776:=by omega):aK prog 186 [(.one (sR p):aF),(oU c:aF)] (.ret [.one (sR (gI (gY p c.q)))]):=by
 refine dB func186 aL2 ?_;refine bC {i:Nat // i<=p.length} (fun g=>[.one (.int .i64 g.1),.rows (rR (gY (p.take g.1) c.q))]) (fun g=>p.length-g.1) ⟨0,cG _⟩ aR.rfl (fun _=>rfl) ?_;rintro⟨i,hi⟩;dsimp only[aP,aQ]at hi|-;apply vn (aZ iy (aX _));refine uS az ?_ ?_<;>intro h3
 .obtain⟨x,hx⟩:∃x,p[i]?=some x:=⟨_,bU O⟩
  apply vn (aY iy hx);apply vn (ay Iz dO bY (.inl rfl));apply aA (ud x c A B (hp x (cj hx)) hc hB);apply bh (us:=rR [.of (x.q*c.q)]);refine rW (xs:=gY (p.take i) c.q) (x:=.of (x.q*c.q)) (f:=rC) rfl rfl (by rw[iH,bP];omega) (by rw[iH,bP];simp only[maxLen];omega) ?_;rw[show gY (p.take i) c.q++[.of (x.q*c.q)]=gY (p.take (i+1)) c.q from pV (f:=fun a:RQ=>RQ.of (a.q*c.q)) hx];apply vn aC;dsimp only[aP,aQ];exact aa rfl ⟨⟨i+1,O⟩,aR.rfl,by show p.length-(i+1)<p.length-i;omega⟩
 rw[show i=p.length by omega,eW];apply aA (xW (gY p c.q) (by rw[iH];exact hs)) rfl;exact aN
def atR(p:List RQ)(i:Nat):Rat:=((p.map RQ.q).getD i 0)
def oL{p:List RQ}{i:Nat}{x:RQ}(h:p[i]?=some x):atR p i=x.q:=by
 rw[atR,dp,dS,h];rfl
def Td{p:List RQ}{i:Nat}(h:p.length<=i:=by omega):atR p i=0:=by
 rw[atR,dp,gE (by simpa using h)];rfl
def Cg(a b:List RQ)(i:Nat):List RQ:=(List.range i).map fun k=>.of (atR a k+atR b k)
def vw(a b:List RQ)(i:Nat):(Cg a b i).length=i:=by simp[Cg]
def Co(a b:List RQ)(i:Nat):Cg a b i++[.of (atR a i+atR b i)]=Cg a b (i+1):=by simp[Cg,ml]
def aN8(a b:List RQ)(A B:Nat)(ha:∀x∈a,Fit A x.q)(hb:∀x∈b,Fit B x.q)(hs2:b.length<1099511627776:=by omega)(hB:2*A+2*B<=1073741824:=by omega)(h64:64<=A:=by omega)(h64':64<=B:=by omega)(hs:a.length<1099511627776:=by omega):aK prog 185 [(.one (sR a):aF),(.one (sR b):aF)] (.ret [.one (sR (gI (Cg a b (max a.length b.length))))]):=by
 refine dB func185 bJ3 ?_;have h0:Fit 64 (RQ.of ((0:Int):Rat)).q:=Fit.zero O;refine bC {i:Nat // i<=max a.length b.length} (fun g=>[.one (.int .i64 g.1),.rows (rR (Cg a b g.1))]) (fun g=>max a.length b.length-g.1) ⟨0,cG _⟩ aR.rfl (fun _=>rfl) ?_;rintro⟨i,hi⟩;dsimp only[aP,aQ]at hi|-;have hsl:=vw a b i;apply vn (aZ iy (aX _));refine uS az ?_ ?_<;>intro h3
 .apply aA (nN 0);apply vn (aZ iy (aX _));refine uS az ?_ ?_<;>intro h7
  .obtain⟨x,hx⟩:∃x,a[i]?=some x:=⟨_,bU O⟩
   have hxA:=ha x (cj hx);apply vn (aY iy hx);apply vn (ay Iz dO bY (.inl rfl));apply aA (wG (.of ((0:Int):Rat)) x 64 A h0 hxA);dsimp only[aP,aQ];apply vn (aZ iy (aX _));refine uS az ?_ ?_<;>intro h13
   .obtain⟨y,hy⟩:∃y,b[i]?=some y:=⟨_,bU O⟩
    apply vn (aY iy hy);apply vn (ay Iz dO bY (.inl rfl));apply aA (wG (.of ((RQ.of ((0:Int):Rat)).q+x.q)) y (64+A+1) B (h0.add hxA) (hb y (cj hy)));rw[show(RQ.of ((RQ.of ((0:Int):Rat)).q+x.q)).q+y.q=atR a i+atR b i by rw[oL hx,oL hy];show((0:Int):Rat)+x.q+y.q=_;grind];apply bh (us:=rR [.of (atR a i+atR b i)]);refine rW (xs:=Cg a b i) (x:=.of (atR a i+atR b i)) (f:=rC) rfl rfl O (by simp only[maxLen];omega) ?_;rw[Co];apply vn aC;dsimp only[aP,aQ];exact aa rfl ⟨⟨i+1,O⟩,aR.rfl,by show max a.length b.length-(i+1)<max a.length b.length-i;omega⟩
   rw[show(RQ.of ((0:Int):Rat)).q+x.q=atR a i+atR b i by rw[oL hx,Td (p:=b)];show((0:Int):Rat)+x.q=_;grind];apply bh (us:=rR [.of (atR a i+atR b i)]);refine rW (xs:=Cg a b i) (x:=.of (atR a i+atR b i)) (f:=rC) rfl rfl O (by simp only[maxLen];omega) ?_;rw[Co];apply vn aC;dsimp only[aP,aQ];exact aa rfl ⟨⟨i+1,O⟩,aR.rfl,by show max a.length b.length-(i+1)<max a.length b.length-i;omega⟩
  exfalso;omega
 apply vn (aZ iy (aX _));refine uS az ?_ ?_<;>intro h41
 .apply aA (nN 0);apply vn (aZ iy (aX _));refine uS az ?_ ?_<;>intro h45
  .exfalso;omega
  apply vn (aZ iy (aX _));refine uS az ?_ ?_<;>intro h65
  .obtain⟨y,hy⟩:∃y,b[i]?=some y:=⟨_,bU O⟩
   apply vn (aY iy hy);dsimp only[aP,aQ];apply vn (ay Iz dO bY (.inl rfl));apply aA (wG (.of ((0:Int):Rat)) y 64 B h0 (hb y (cj hy)));rw[show(RQ.of ((0:Int):Rat)).q+y.q=atR a i+atR b i by rw[oL hy,Td (p:=a)];show((0:Int):Rat)+y.q=_;grind];apply bh (us:=rR [.of (atR a i+atR b i)]);refine rW (xs:=Cg a b i) (x:=.of (atR a i+atR b i)) (f:=rC) rfl rfl O (by simp only[maxLen];omega) ?_;rw[Co];apply vn aC;dsimp only[aP,aQ];exact aa rfl ⟨⟨i+1,O⟩,aR.rfl,by show max a.length b.length-(i+1)<max a.length b.length-i;omega⟩
  exfalso;omega
 rw[show i=max a.length b.length by omega];apply aA (xW (Cg a b (max a.length b.length)) (by rw[vw];omega)) rfl;exact aN
def Ya(a b:List RQ):List RQ:=gI (Cg a b (max a.length b.length))
def tH(p:List RQ):(gI p).length<=p.length:=by rw[zh];exact kg p
def ae2(a b:List RQ):(Ya a b).length<=max a.length b.length:=an (tH _) (by rw[vw];exact ah _)
def mulR(a b:List RQ):Nat->List RQ
 | 0=>[]
 | i+1=>Ya (mulR a b i) (List.replicate i .nil++gI (gY a (atR b i)))
theorem Qn(a b:List RQ):∀i,(mulR a b i).length<=a.length+i
 | 0=>cG _
 | i+1=>by
   rw[mulR];refine an (ae2 _ _) ?_;have h1:=Qn a b i;have h2:=tH (gY a (atR b i));rw[iH]at h2;rw[gK,lH];omega
def bT0(n:Nat)(us:List RQ):au (au aE.Sub) (List.replicate n z4++rR us) (rR (List.replicate n .nil++us)):=by
 rw[show rR (List.replicate n RQ.nil++us)=List.replicate n (rC .nil)++rR us by rw[rR,ep,rn]];exact au.append (vr AQ n) (au.pr (au.pr aE.Sub.refl) _)
def ce9(a b:List RQ)(A B F:Nat)(ha:∀x∈a,Fit A x.q)(hb:∀x∈b,Fit B x.q)(hF:∀i,i<=b.length->∀x∈mulR a b i,Fit F x.q)(hs2:b.length<=1073741824)(hB:2*F+2*(A+B)<=1073741824:=by omega)(h64:64<=A:=by omega)(h64':64<=F:=by omega)(hs:a.length<=1073741824:=by omega):aK prog 187 [(.one (sR a):aF),(.one (sR b):aF)] (.ret [.one (sR (mulR a b b.length))]):=by
 refine dB func187 bZ7 ?_;refine bC {i:Nat // i<=b.length} (fun g=>[.one (sR (mulR a b g.1)),.one (.int .i64 g.1)]) (fun g=>b.length-g.1) ⟨0,cG _⟩ ⟨aE.Sub.nil,aF.Sub.same,trivial⟩ (fun _=>rfl) ?_;rintro⟨i,hi⟩;dsimp only[aP,aQ]at hi|-;apply vn (aZ iy (aX _));refine uS az ?_ ?_<;>intro h3
 .obtain⟨x,hx⟩:∃x,b[i]?=some x:=⟨_,bU O⟩
  have hat:=oL hx;have hml:=Qn a b i;have htl:=tH (gY a x.q);rw[iH]at htl;have hlen:(List.replicate i z4++rR (gI (gY a x.q))).length=i+(gI (gY a x.q)).length:=by rw[gK,lH,aX]
  refine vz (n:=i) (m:=i) (us:=List.replicate i z4) rfl rfl rfl (ah _) O (by simp only[maxLen];omega) ?_;apply vn (aY iy hx);apply vn (ay Iz dO bY (.inl rfl));apply aA (VB a x A B ha (hb x (cj hx)));refine su (ts:=List.replicate i z4) (us:=rR (gI (gY a x.q))) (vs:=List.replicate i z4++rR (gI (gY a x.q))) rfl (.inr aE.Sub.same) rfl (by rw[hlen];omega) (by rw[hlen];simp only[maxLen];omega) ?_;dsimp only[aP,aQ];refine pg (show aR _ [.one (sR (mulR a b i)),.one (sR (List.replicate i .nil++gI (gY a x.q)))]from⟨aF.Sub.same,aE.Sub.slice (bT0 i _),trivial⟩) (aN8 _ _ F (A+B) (hF i hi) (fun y hy=>?_) (by rw[gK,lH];omega)) rfl ?_
  .rcases iM.1 hy with h | h
   .rw[(pC.1 h).2];exact Fit.zero O
   .obtain⟨u,hu,rfl⟩:=jf.1 (jg h);exact(ha u hu).mul (hb x (cj hx))
  apply vn aC;dsimp only[aP,aQ];exact aa rfl ⟨⟨i+1,O⟩,aR.of_eq (by dsimp only;rw[mulR,hat];rfl),by show b.length-(i+1)<b.length-i;omega⟩
 rw[show b.length=i by omega];exact aN
def sx(q:List RQ):Nat->List RQ
 | 0=>gI [.of ((1:Int):Rat)]
 | i+1=>mulR (sx q i) q q.length
theorem Rk(q:List RQ):∀i,(sx q i).length<=1+i*q.length
 | 0=>by rw[sx,nV];exact tH _
 | i+1=>by
   have h1:=Qn (sx q i) q q.length;have h2:=Rk q i;rw[sx,ba];omega
def lE(p q:List RQ):Nat->List RQ
 | 0=>[]
 | i+1=>Ya (lE p q i) (gI (gY (sx q i) (atR p i)))
theorem Ku(p q:List RQ):∀i,(lE p q i).length<=1+i*q.length
 | 0=>cG _
 | i+1=>by
   have h1:=Ku p q i;have h2:=Rk q i;have h3:=tH (gY (sx q i) (atR p i));rw[iH]at h3;rw[lE,ba];refine an (ae2 _ _) ?_;omega
structure VH(F:Nat)(p q:List RQ):Prop where
 fp:∀x∈p,Fit F x.q
 fq:∀x∈q,Fit F x.q
 fw:∀i,i<=p.length->∀x∈sx q i,Fit F x.q
 fm:∀i,i<=p.length->∀j,j<=q.length->∀x∈mulR (sx q i) q j,Fit F x.q
 fc:∀i,i<=p.length->∀x∈lE p q i,Fit F x.q
def WL(p q:List RQ)(F:Nat)(C:VH F p q)(hF:F<=100000000)(h64:64<=F)(hl:1+(p.length+1)*q.length<=1073741824)(hs:p.length<=1073741824):aK prog 106 [(.one (sR p):aF),(.one (sR q):aF)] (.ret [.one (sR (lE p q p.length))]):=by
 refine dB func106 Xp ?_;have hql:q.length<=1073741824:=by rw[ba]at hl;omega
 apply aA (nN 1);apply aA (TA (.of ((1:Int):Rat)));refine bC {i:Nat // i<=p.length} (fun g=>[.one (sR (lE p q g.1)),.one (sR (sx q g.1)),.one (.int .i64 g.1)]) (fun g=>p.length-g.1) ⟨0,cG _⟩ ⟨aE.Sub.nil,aF.Sub.same,aF.Sub.same,trivial⟩ (fun _=>rfl) ?_;rintro⟨i,hi⟩;dsimp only[aP,aQ]at hi|-;apply vn (aZ iy (aX _));refine uS az ?_ ?_<;>intro h5
 .obtain⟨x,hx⟩:∃x,p[i]?=some x:=⟨_,bU O⟩
  have hat:=oL hx;have hxF:=C.fp x (cj hx);have hw:=Rk q i;have hcl:=Ku p q i;have hil:i*q.length<=(p.length+1)*q.length:=cg _ O;have htl:=tH (gY (sx q i) x.q);rw[iH]at htl;apply vn (aY iy hx);apply vn (ay Iz dO bY (.inl rfl));apply aA (VB (sx q i) x F F (C.fw i hi) hxF)
  refine aA (aN8 (lE p q i) (gI (gY (sx q i) x.q)) F (F+F) (C.fc i hi) (fun y hy=>by
   obtain⟨u,hu,rfl⟩:=jf.1 (jg hy);exact(C.fw i hi u hu).mul hxF)) rfl ?_
  apply aA (ce9 (sx q i) q F F F (C.fw i hi) C.fq (C.fm i hi) hql);apply vn aC;dsimp only[aP,aQ];exact aa rfl ⟨⟨i+1,O⟩,aR.of_eq (by dsimp only;rw[lE,sx,hat];rfl),by show p.length-(i+1)<p.length-i;omega⟩
 rw[show p.length=i by omega];exact aN
def ch1:Tr:=cq 6 167 16 (Dc 50 1 4 49 (.need (.lit 4 [[.u 1 0,.u 1 1,.u 1 2,.u 1 3],[.u 8 0,.u 8 1,.u 8 2,.u 8 3]]) (.buildSlice 167 2 #[(0,tT 18),(1,tT 19)]) 167 false (eO 106 [W 7 0,.one (.c (.sr 4 9))] [none] [17,20] [167,167] 167 true (tM 10 44 21 (jk 1 24 3 11 13 22 44 (bX 2 1 3 11 ab1))))))
def bX9:Tr:=zB 0 (bD 0 0 8 44 (dW 2 4 0 3 7 9 4 (aJ 5 0 (jL 0 0 2 0 44 14 15 ch1) (yU 1 3))))
def aQ5:aO prog f125 cT [.v none,.v (some 4)]=bX9:=aT
def shR(e:List (List RQ))(c:RQ):List (List RQ):=e.map fun p=>lE p [c,.of ((1:Int):Rat)] p.length
def aw1(e:List (List RQ))(c:RQ)(F:Nat)(C:∀p∈e,VH F p [c,.of ((1:Int):Rat)]/\p.length<=1048576)(hF:F<=100000000)(h64:64<=F)(hs:e.length<1048576:=by omega):aK prog 125 [(.one (eR e):aF),(oU c:aF)] (.ret [.one (eR (shR e c))]):=by
 refine dB func125 aQ5 ?_;refine bC {i:Nat // i<=e.length} (fun g=>[.one (.int .i64 g.1),.rows ((shR (e.take g.1) c).map cR)]) (fun g=>e.length-g.1) ⟨0,cG _⟩ aR.rfl (fun _=>rfl) ?_;rintro⟨i,hi⟩;dsimp only[aP,aQ]at hi|-;have hsl:(shR (e.take i) c).length=i:=by rw[shR,aX,bP];omega
 apply vn (aZ BZ (aX _));refine uS az ?_ ?_<;>intro h3
 .obtain⟨p,hp⟩:∃p,e[i]?=some p:=⟨_,bU O⟩
  obtain⟨hC,hl⟩:=C p (cj hp);apply vn (aY BZ hp);apply vn (bI zp);apply aA (nN 1);apply bh (us:=rR [c,.of ((1:Int):Rat)]);apply aA (WL p [c,.of ((1:Int):Rat)] F hC hF h64 (by simp only[bm,ck];omega) O) rfl;apply bh (us:=[cR (lE p [c,.of ((1:Int):Rat)] p.length)]);dsimp only[aP,aQ];refine rW (xs:=shR (e.take i) c) (x:=lE p [c,.of ((1:Int):Rat)] p.length) (f:=cR) rfl rfl O (by simp only[maxLen];omega) ?_;rw[show shR (e.take i) c++[lE p [c,.of ((1:Int):Rat)] p.length]=shR (e.take (i+1)) c from pV (f:=fun p:List RQ=>lE p [c,.of ((1:Int):Rat)] p.length) hp];apply vn aC;dsimp only[aP,aQ];exact aa rfl ⟨⟨i+1,O⟩,aR.rfl,by show e.length-(i+1)<e.length-i;omega⟩
 rw[show i=e.length by omega,eW];exact aN
theorem KH{B:Nat}{q:j0}{m:Nat}{lead:Rat}{y:j1}{N:Nat}(C:jy B q m lead y N):∀{n:Nat},n<=N->∀{b:Rat},b∈aU q m lead y n->Fit B b
 | 0,_,b,hb=>by cases hb
 | n+1,hn,b,hb=>by
   rw[aU]at hb;rcases iM.1 hb with h | h
   .exact KH C O h
   .rw[eo.1 h];exact C.fa n O
def aE6(a b:List RQ):(Ya a b).map RQ.q=Rf (a.map RQ.q) (b.map RQ.q):=by
 rw[Ya,tY,Rf,aX,aX,Cg,eG];rfl
def ab9(x:Rat)(a b:List RQ):ev ((Ya a b).map RQ.q) x=ev (a.map RQ.q) x+ev (b.map RQ.q) x:=by rw[aE6,YU]
def Pa(x:Rat)(p:List RQ)(c:Rat):ev ((gI (gY p c)).map RQ.q) x=ev (p.map RQ.q) x*c:=by
 rw[tY,xg,gY,eG,show(RQ.q ∘ fun a:RQ=>RQ.of (a.q*c))=(fun a=>a*c) ∘ RQ.q from rfl,<-eG,YK]
theorem Zb(x:Rat)(a b:List RQ):∀i,i<=b.length->ev ((mulR a b i).map RQ.q) x=ev (a.map RQ.q) x*ev ((b.map RQ.q).take i) x
 | 0,_=>by rw[mulR,kR];show(0:Rat)=_;rw[dV];grind
 | i+1,hi=>by
   obtain⟨z,hz⟩:∃z,b[i]?=some z:=⟨_,bU O⟩
   have hz':(b.map RQ.q)[i]?=some z.q:=by rw[dS,hz];rfl
   rw[mulR,ab9,Zb x a b i O,ep,Ol,rn,show RQ.q .nil=0 from rfl,Wu,lH,Pa,oL hz,mO hz']
   grind
theorem Zk(x:Rat)(q:List RQ):∀i,ev ((sx q i).map RQ.q) x=ev (q.map RQ.q) x^i
 | 0=>by
   rw[sx,tY,xg,bQ];show ev [((1:Int):Rat)] x=1;rw[av,dV];grind
 | i+1=>by
   rw[sx,Zb x _ q q.length (ah _),Zk x q i,bE,cU (by rw[aX];exact ah _)]
theorem Vk(x:Rat)(p q:List RQ):∀i,i<=p.length->ev ((lE p q i).map RQ.q) x=ev ((p.map RQ.q).take i) (ev (q.map RQ.q) x)
 | 0,_=>by rw[lE,kR];rfl
 | i+1,hi=>by
   obtain⟨z,hz⟩:∃z,p[i]?=some z:=⟨_,bU O⟩
   have hz':(p.map RQ.q)[i]?=some z.q:=by rw[dS,hz];rfl
   rw[lE,ab9,Vk x p q i O,Pa,Zk,oL hz,mO hz']
   grind
theorem VA(p q:List RQ):∀i,uz ((lE p q i).map RQ.q)
 | 0=>fun a h=>by cases h
 | i+1=>by rw[lE,aE6];exact JN _ _
def bk6(p:List RQ)(c:RQ):(lE p [c,.of ((1:Int):Rat)] p.length).map RQ.q=fE (p.map RQ.q) c.q:=by
 refine aS5 (VA _ _ _) (pk _ _) fun x=>?_;rw[Vk x p _ p.length (ah _),cU (by rw[aX];exact ah _),pX]
 congr 1
 show ev [c.q,((1:Int):Rat)] x=_;rw[av,av,dV];grind
def cw5(e:List (List RQ))(c:RQ):xh (shR e c)=(xh e).map (fE · c.q):=by
 rw[xh,shR,xh,eG,eG];exact mG fun p _=>bk6 p c
end Go.Sy
