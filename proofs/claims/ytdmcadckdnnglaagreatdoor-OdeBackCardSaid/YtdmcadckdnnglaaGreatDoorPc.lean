/- The coefficients of a solution have few bits. The polynomial of the first coefficients satisfies the equation up to high terms: plain laws. The reference's polynomials. The reference's shifted equations, its series. The reference's shifted polynomials are the program's.
-/
import Derived.Test.YtdmcadckdnnglaaGreatDoorQa
import Derived.Test.YtdmcadckdnnglaaGreatDoorQf
set_option linter.unusedVariables false
set_option linter.unusedSimpArgs false
namespace Ord
theorem Bd.inv {E T:Nat} {r:Rat} (h1:E≠0) (h:Bd E T r) (hr:r≠0):Bd r.num.natAbs E r⁻¹:=by
 have hn:r.num≠0:=fun e=>hr (Rat.num_eq_zero.1 e);have hd:=Nat.le_of_dvd (by omega) h.1;unfold Bd;rw [Rat.num_inv,Rat.den_inv,if_neg hn,Int.natAbs_mul,Int.natAbs_sign_of_ne_zero hn,Int.natAbs_natCast,Nat.one_mul];exact ⟨Nat.dvd_refl _,Nat.le_trans hd (Nat.le_mul_of_pos_right _ (by omega))⟩
theorem Bd.div {D E S T:Nat} {a r:Rat} (h0:D≠0) (h1:E≠0) (ha:Bd D S a) (h:Bd E T r) (hr:r≠0):Bd (D*r.num.natAbs) (S*E) (a/r):=by
 rw [Rat.div_def];exact ha.mul h0 (fun e=>hr (Rat.num_eq_zero.1 (by omega))) (h.inv h1 hr)
theorem Bd.az9 {D S:Nat} {q:Rat} (h0:D≠0) (h:Bd D S q):q.num.natAbs≤S*D:=Nat.le_trans h.2 (Nat.mul_le_mul_left _ (Nat.le_of_dvd (by omega) h.1))
theorem Pj {z:Int} (h:z≠0):(z:Rat)≠0:=fun e=>h (by have:=congrArg Rat.num e;simpa using this)
section
variable {q:List (List Rat)} {a:List Rat} {m n D S X A F L:Nat}
theorem Cb {p:List Rat} {i:Nat} {x:Rat} {Y:Nat} (h0:D≠0) (h1:X≠0) (hp:∀ b∈p,Bd D S b) (ha:∀ b∈a,Bd X A b) (hF:∀ z:Int,z.natAbs≤n+m→(bL z i).natAbs≤F) (hi:i≤m) (hx:Bd (D*X) Y x) :
  ∀ k,k≤n-m+1→m≤n→Bd (D*X) (Y+k*(S*F*A)) (inner p a m n i x k)
 | 0,_,_=>by simpa [inner] using hx
 | k+1,hk,hmn=>by
   have ih:=Cb h0 h1 hp ha hF hi hx k (by omega) hmn;have hm:Y+k*(S*F*A)≤Y+(k+1)*(S*F*A):=by rw [Nat.add_mul];omega
   rw [inner];split
   ·have hpk:Bd D S (p.getD k 0):=by
     rw [List.getD_eq_getElem?_getD];cases h:p[k]? with
     | none=>exact Bd.zero
     | some b=>exact hp b (List.mem_of_getElem? h)
    have hak:Bd X A (a.getD (n-(m+k-i)) 0):=by
     rw [List.getD_eq_getElem?_getD];cases h:a[n-(m+k-i)]? with
     | none=>exact Bd.zero
     | some b=>exact ha b (List.mem_of_getElem? h)
    have hf:Bd 1 F ((bL ((n:Int)-((m:Int)+k-i)) i:Int):Rat):=Bd.int (hF _ (by omega));have h2:=(hpk.mul h0 (by omega) hf).mul (by omega) h1 hak;rw [Nat.mul_one] at h2;have h3:=ih.sub (Nat.mul_ne_zero h0 h1) h2;rw [Nat.add_mul,Nat.one_mul,←Nat.add_assoc];exact h3
   ·exact ih.le hm
theorem Cl (h0:D≠0) (h1:X≠0) (hq:∀ p∈q,p.length≤L∧∀ b∈p,Bd D S b) (ha:∀ b∈a,Bd X A b) (hF:∀ i,i≤m→∀ z:Int,z.natAbs≤n+m→(bL z i).natAbs≤F) (hmn:m≤n) :
  ∀ i,i≤m+1→Bd (D*X) (i*(L*(S*F*A))) (outer q a m n i)
 | 0,_=>by simpa [outer] using Bd.zero
 | i+1,hi=>by
   have ih:=Cl h0 h1 hq ha hF hmn i (by omega)
   have hp:(q.getD i []).length≤L∧∀ b∈q.getD i [],Bd D S b:=by
    rw [List.getD_eq_getElem?_getD];cases h:q[i]? with
    | none=>exact ⟨Nat.zero_le _,fun b hb=>by cases hb⟩
    | some p=>exact hq p (List.mem_of_getElem? h)
   rw [outer];refine (Cb h0 h1 hp.2 ha (hF i (by omega)) (by omega) ih _ (Nat.min_le_right _ _) hmn).le ?_;rw [Nat.add_mul i 1,Nat.one_mul];exact Nat.add_le_add_left (Nat.mul_le_mul_right _ (Nat.le_trans (Nat.min_le_left _ _) hp.1)) _
end
structure ae6 (q:List (List Rat)) (m:Nat) (lead:Rat) (y:List Rat) (D S E T L:Nat):Prop where
 d0:D≠0
 e0:E≠0
 s1:1≤S
 t1:1≤T
 l1:1≤L
 hq:∀ p∈q,p.length≤L∧∀ b∈p,Bd D S b
 hl:Bd D S lead
 l0:lead≠0
 hy:∀ b∈y,Bd E T b
 ql:q.length=m+1
def gM (m N:Nat):Nat:=(N+m+m)^m
def kM (m N D S E:Nat):Nat:=E*gM m N+D*(S*gM m N*D)
def dR (m N D S L:Nat):Nat:=(m+1)*(L*(S*gM m N))*D
theorem LI {m N n:Nat} (hn:n<N):∀ i,i≤m→∀ z:Int,z.natAbs≤n+m→(bL z i).natAbs≤gM m N:=fun i hi z hz=>
 Nat.le_trans (lX (N:=N+m+m) i (by omega)) (Nat.pow_le_pow_right (by omega) hi)
theorem Jb {q:List (List Rat)} {m:Nat} {lead:Rat} {y:List Rat} {D S E T L N:Nat} (C:ae6 q m lead y D S E T L) (hmN:m≤N) :
  ∀ n,n≤N→∃ X,X≠0∧X≤kM m N D S E^n∧∀ b∈aR q m lead y n,Bd X (T*dR m N D S L^n) b:=by
 have hF1:1≤N→1≤gM m N:=fun h=>Nat.pow_pos (by omega);intro n
 induction n with
 | zero=>exact fun _=>⟨1,by omega,by simp,fun b hb=>by cases hb⟩
 | succ n ih=>
   intro hn;obtain ⟨X,hX0,hXQ,hb⟩:=ih (by omega);have hF:=LI (m:=m) (N:=N) (n:=n) (by omega);have hF1:=hF1 (by omega);have hD:=Nat.pos_of_ne_zero C.d0;have hE:=Nat.pos_of_ne_zero C.e0;have hR1:1≤dR m N D S L:=Nat.mul_pos (Nat.mul_pos (by omega) (Nat.mul_pos C.l1 (Nat.mul_pos C.s1 hF1))) hD;have hTR:T*dR m N D S L^n≤T*dR m N D S L^(n+1):=Nat.mul_le_mul_left _ (Nat.pow_le_pow_right hR1 (by omega));have hT:T≤T*dR m N D S L^(n+1):=Nat.le_mul_of_pos_right _ (Nat.pow_pos hR1)
   have key:∃ u,u≠0∧u≤kM m N D S E∧Bd (X*u) (T*dR m N D S L^(n+1)) (kA q m lead y n (aR q m lead y n)):=by
    unfold kA;split
    ·rename_i hnm;have hf0:((bL n n:Int):Rat)≠0:=Pj (qV (by omega));have hfz:(bL n n).natAbs≤gM m N:=hF n (by omega) n (by omega)
     have hy:Bd E T (y.getD n 0):=by
      rw [List.getD_eq_getElem?_getD];cases h:y[n]? with
      | none=>exact Bd.zero
      | some b=>exact C.hy b (List.mem_of_getElem? h)
     have h:=hy.div C.e0 (E:=1) (by omega) (Bd.int hfz) hf0;rw [Nat.mul_one,Rat.num_intCast] at h;refine ⟨E*(bL n n).natAbs,Nat.mul_ne_zero C.e0 (fun e=>hf0 (by rw [Int.natAbs_eq_zero.1 e];rfl)),?_,h.mono (Nat.dvd_mul_left _ _) hT⟩;exact Nat.le_trans (Nat.mul_le_mul_left _ hfz) (Nat.le_add_right _ _)
    ·rename_i hnm;have hmn:m≤n:=by omega
     have hf0:((bL n m:Int):Rat)≠0:=Pj (qV (by omega));have hfz:(bL n m).natAbs≤gM m N:=hF m (by omega) n (by omega);have hr:=C.hl.mul C.d0 (E:=1) (by omega) (Bd.int hfz);rw [Nat.mul_one] at hr
     have hr0:lead*((bL n m:Int):Rat)≠0:=fun e=>by
      rcases Rat.mul_eq_zero.1 e with e | e
      ·exact C.l0 e
      ·exact hf0 e
     have ho:=Cl C.d0 hX0 C.hq hb hF hmn q.length (by rw [C.ql];omega);have h:=ho.div (Nat.mul_ne_zero C.d0 hX0) C.d0 hr hr0;rw [show D*X*(lead*((bL n m:Int):Rat)).num.natAbs=X*(D*(lead*((bL n m:Int):Rat)).num.natAbs) by rw [Nat.mul_comm D X,Nat.mul_assoc]] at h;refine ⟨_,Nat.mul_ne_zero C.d0 (fun e=>hr0 (Rat.num_eq_zero.1 (Int.natAbs_eq_zero.1 e))),?_,h.le ?_⟩
     ·exact Nat.le_trans (Nat.mul_le_mul_left _ (hr.az9 C.d0)) (Nat.le_add_left _ _)
     ·rw [C.ql,Nat.pow_succ];unfold dR;generalize ((m+1)*(L*(S*gM m N))*D)^n=R;refine Nat.le_of_eq ?_
      ac_rfl
   obtain ⟨u,hu0,huQ,hu⟩:=key;refine ⟨X*u,Nat.mul_ne_zero hX0 hu0,?_,fun b hbm=>?_⟩
   ·rw [Nat.pow_succ];exact Nat.mul_le_mul hXQ huQ
   ·rw [aR] at hbm;rcases List.mem_append.1 hbm with h | h
    ·exact (hb b h).mono (Nat.dvd_mul_right _ _) hTR
    ·rw [List.mem_singleton.1 h];exact hu
def AP (m N D S E T L:Nat):Nat:=D*kM m N D S E^N*(T*dR m N D S L^(N+1))
theorem Pg {q:List (List Rat)} {m:Nat} {lead:Rat} {y:List Rat} {D S E T L N B:Nat} (C:ae6 q m lead y D S E T L) (hmN:m≤N) (h1N:1≤N) (hB:AP m N D S E T L<2^B):gP B q m lead y N:=by
 have hF1:1≤gM m N:=Nat.pow_pos (by omega);have hD:=Nat.pos_of_ne_zero C.d0;have hE:=Nat.pos_of_ne_zero C.e0;have hSF:1≤S*gM m N:=Nat.mul_pos C.s1 hF1;have hR1:1≤dR m N D S L:=Nat.mul_pos (Nat.mul_pos (by omega) (Nat.mul_pos C.l1 hSF)) hD;have hQ1:1≤kM m N D S E:=Nat.le_trans (Nat.mul_pos hE hF1) (Nat.le_add_right _ _);have hQN:1≤kM m N D S E^N:=Nat.pow_pos hQ1;have hRN:1≤dR m N D S L^N:=Nat.pow_pos hR1
 have hRS:dR m N D S L≤dR m N D S L^(N+1):=by
  rw [Nat.pow_succ];exact Nat.le_mul_of_pos_left _ hRN
 have hEQ:E≤kM m N D S E^N:=Nat.le_trans (Nat.le_trans (Nat.le_mul_of_pos_right _ hF1) (Nat.le_add_right _ _)) (Nat.le_trans (Nat.le_of_eq (Nat.pow_one _).symm) (Nat.pow_le_pow_right hQ1 h1N))
 have hSR:S*gM m N≤dR m N D S L:=by
  refine Nat.le_trans ?_ (Nat.le_mul_of_pos_right _ hD);refine Nat.le_trans ?_ (Nat.le_mul_of_pos_left _ (by omega));exact Nat.le_mul_of_pos_left _ C.l1
 have hS:S≤dR m N D S L:=Nat.le_trans (Nat.le_mul_of_pos_right _ hF1) hSR;have hF:gM m N≤dR m N D S L:=Nat.le_trans (Nat.le_mul_of_pos_left _ C.s1) hSR
 have big:∀ {X Y:Nat} {x:Rat},X≠0→Bd X Y x→X≤D*kM m N D S E^N→Y≤T*dR m N D S L^(N+1)→Fit B x:=fun {X Y x} h0 h hX hY=>by
  have hV:Y*X≤AP m N D S E T L:=by
   unfold AP;rw [Nat.mul_comm (D*kM m N D S E^N)];exact Nat.mul_le_mul hY hX
  refine h.fit h0 (Nat.lt_of_le_of_lt ?_ hB) (Nat.lt_of_le_of_lt hV hB);unfold AP;exact Nat.le_trans hX (Nat.le_mul_of_pos_right _ (Nat.mul_pos C.t1 (Nat.pow_pos hR1)))
 have hTR:dR m N D S L^(N+1)≤T*dR m N D S L^(N+1):=Nat.le_mul_of_pos_left _ C.t1;have hDQ:D≤D*kM m N D S E^N:=Nat.le_mul_of_pos_right _ hQN;have hint:∀ {z:Int},z.natAbs≤gM m N→Fit B (z:Rat):=fun {z} hz=>big (X:=1) (by omega) (Bd.int hz) (Nat.mul_pos hD hQN) (Nat.le_trans hF (Nat.le_trans hRS hTR));have hco:=Jb C hmN
 refine ⟨big C.d0 C.hl hDQ (Nat.le_trans hS (Nat.le_trans hRS hTR)),fun x hx=>big C.e0 (C.hy x hx) (Nat.le_trans hEQ (Nat.le_mul_of_pos_left _ hD)) (Nat.le_mul_of_pos_right _ (Nat.pow_pos hR1)),fun p hp x hx=>big C.d0 ((C.hq p hp).2 x hx) hDQ (Nat.le_trans hS (Nat.le_trans hRS hTR)),
  fun n i hn hi z hz j hj=>hint (Nat.le_trans (lX (N:=N+m+m) j (by omega)) (Nat.pow_le_pow_right (by omega) (by omega))),fun n hn j hj=>hint (Nat.le_trans (lX (N:=N+m+m) j (by omega)) (Nat.pow_le_pow_right (by omega) (by omega))),fun n hn=>?_,fun n i k hn hmn hi hk=>?_⟩
 ·obtain ⟨X,h0,hX,hb⟩:=hco (n+1) (by omega);refine big h0 (hb _ (by rw [aR];simp)) ?_ ?_
  ·exact Nat.le_trans (Nat.le_trans hX (Nat.pow_le_pow_right hQ1 (by omega))) (Nat.le_mul_of_pos_left _ hD)
  ·exact Nat.mul_le_mul_left _ (Nat.pow_le_pow_right hR1 (by omega))
 ·obtain ⟨X,h0,hX,hb⟩:=hco n (by omega);have hFz:=LI (m:=m) (N:=N) (n:=n) hn;have hil:i≤m:=by have:=C.ql;omega
  have ho:=Cl C.d0 h0 C.hq hb hFz hmn i (by omega)
  have hp:(q.getD i []).length≤L∧∀ b∈q.getD i [],Bd D S b:=by
   rw [List.getD_eq_getElem?_getD];cases h:q[i]? with
   | none=>exact ⟨Nat.zero_le _,fun b hb=>by cases hb⟩
   | some p=>exact C.hq p (List.mem_of_getElem? h)
  have hin:=Cb C.d0 h0 hp.2 hb (hFz i hil) hil ho k (by omega) hmn;refine big (Nat.mul_ne_zero C.d0 h0) hin (Nat.mul_le_mul_left _ (Nat.le_trans hX (Nat.pow_le_pow_right hQ1 (by omega)))) ?_;have hkL:k≤L:=by have:=hp.1;omega
  have h1:i*(L*(S*gM m N*(T*dR m N D S L^n)))+k*(S*gM m N*(T*dR m N D S L^n))≤(m+1)*(L*(S*gM m N*(T*dR m N D S L^n))):=by
   rw [Nat.add_mul m 1,Nat.one_mul];exact Nat.add_le_add (Nat.mul_le_mul_right _ hil) (Nat.mul_le_mul_right _ hkL)
  refine Nat.le_trans h1 ?_;have h2:(m+1)*(L*(S*gM m N*(T*dR m N D S L^n)))=T*(dR m N D S L^n*((m+1)*(L*(S*gM m N)))):=by ac_rfl
  rw [h2];refine Nat.mul_le_mul_left _ ?_;refine Nat.le_trans (Nat.mul_le_mul_left _ (Nat.le_mul_of_pos_right _ hD)) ?_;show dR m N D S L^n*dR m N D S L≤_;rw [←Nat.pow_succ];exact Nat.pow_le_pow_right hR1 (by omega)
end Ord
namespace Ord
def sm (f:Nat→Rat):Nat→Rat
 | 0=>0
 | n+1=>sm f n+f n
theorem bJ {f g:Nat→Rat}:∀ {n:Nat},(∀ i,i<n→f i=g i)→sm f n=sm g n
 | 0,_=>rfl
 | n+1,h=>by rw [sm,sm,bJ (n:=n) (fun i hi=>h i (by omega)),h n (by omega)]
theorem rG {f:Nat→Rat} {n:Nat}:∀ {m:Nat},n≤m→(∀ i,n≤i→i<m→f i=0)→sm f m=sm f n
 | 0,h,_=>by rw [show n=0 by omega]
 | m+1,h,h0=>by
   rcases Nat.lt_or_ge m n with h1 | h1
   ·rw [show n=m+1 by omega]
   ·rw [sm,rG h1 (fun i h2 h3=>h0 i h2 (by omega)),h0 m h1 (by omega)];grind
theorem So (l:List Rat) (i s:Nat) (a:Rat) (h:i<l.length):(l.set i a).getD s 0=if s=i then a else l.getD s 0:=by
 rw [List.getD_eq_getElem?_getD,List.getD_eq_getElem?_getD,List.getElem?_set];split
 ·rename_i e;subst e;rw [if_pos rfl];simp [h]
 ·rename_i e;rw [if_neg (fun x=>e x.symm)]
theorem GV {l:List Rat} {s:Nat} (h:l.length≤s):l.getD s 0=0:=by
 rw [List.getD_eq_getElem?_getD,List.getElem?_eq_none h];rfl
def cv (p q:List Rat) (s:Nat):Rat:=sm (fun j=>p.getD j 0*q.getD (s-j) 0) (s+1)
def dCo (a:List Rat) (i s:Nat):Rat:=a.getD (s+i) 0*((bL ((s+i:Nat):Int) i:Int):Rat)
theorem Ac (a b:Int):((a*b:Int):Rat)=(a:Rat)*(b:Rat):=Rat.intCast_mul a b
def tW (q:List (List Rat)) (a:List Rat) (s i κ:Nat):Rat:=(q.getD i []).getD κ 0*dCo a i (s-κ)
theorem Jo {p a A:List Rat} {m s i:Nat} {x:Rat} (hi:i≤m) (hA:∀ j,j<s+m→A.getD j 0=a.getD j 0) :
  ∀ K,K≤s+1→inner p A m (s+m) i x K=x-sm (fun κ=>if i<m+κ then p.getD κ 0*dCo a i (s-κ) else 0) K
 | 0,_=>by rw [inner,sm];grind
 | K+1,hK=>by
   have ih:=Jo (p:=p) (x:=x) hi hA K (by omega);rw [inner,sm];by_cases h:i<m+K
   ·rw [if_pos h,if_pos h,ih,hA _ (by omega),dCo];have e1:((s+m:Nat):Int)-((m:Int)+(K:Int)-(i:Int))=((s-K+i:Nat):Int):=by omega
    have e2:s+m-(m+K-i)=s-K+i:=by omega
    rw [e1,e2];grind
   ·rw [if_neg h,if_neg h,ih];grind
theorem PJ {p a A:List Rat} {m s i:Nat} {x:Rat} (hi:i≤m) (hA:∀ j,j<s+m→A.getD j 0=a.getD j 0) :
  inner p A m (s+m) i x (min p.length (s+m-m+1))=x-sm (fun κ=>if i<m+κ then p.getD κ 0*dCo a i (s-κ) else 0) (s+1):=by
 rw [Jo hi hA _ (by omega)]
 congr 1
 refine (rG (by omega) fun k h1 h2=>?_).symm;show (if i<m+k then _ else _)=(0:Rat);rw [GV (l:=p) (by omega)];split<;>grind
theorem Ks {q:List (List Rat)} {a A:List Rat} {m s:Nat} (hA:∀ j,j<s+m→A.getD j 0=a.getD j 0) :
  ∀ i,i≤m+1→outer q A m (s+m) i = - sm (fun i=>sm (fun κ=>if i<m+κ then tW q a s i κ else 0) (s+1)) i
 | 0,_=>by rw [outer,sm];grind
 | i+1,hi=>by
   rw [outer,PJ (by omega) hA,Ks hA i (by omega)];show _ = - (sm (fun i=>sm (fun κ=>if i<m+κ then tW q a s i κ else 0) (s+1)) i+sm (fun κ=>if i<m+κ then tW q a s i κ else 0) (s+1));unfold tW;grind
theorem am0 {q:List (List Rat)} {m s N:Nat} {lead:Rat} {y:List Rat} (hl:lead≠0) (hql:q.length=m+1) (hq0:(q.getD m []).getD 0 0=lead) (hs:s+m<N) :
  sm (fun i=>sm (fun κ=>tW q (aR q m lead y N) s i κ) (s+1)) (m+1)=0:=by
 have hA:∀ j,j<s+m→(aR q m lead y (s+m)).getD j 0=(aR q m lead y N).getD j 0:=fun j hj=>by
  rw [←oY q m lead y (k:=s+m) (n:=N) (by omega),List.getD_eq_getElem?_getD,List.getElem?_take,if_pos hj,List.getD_eq_getElem?_getD]
 have hn:(aR q m lead y N).getD (s+m) 0=kA q m lead y (s+m) (aR q m lead y (s+m)):=by
  have h1:(aR q m lead y (s+m+1)).getD (s+m) 0=(aR q m lead y N).getD (s+m) 0:=by
   rw [←oY q m lead y (k:=s+m+1) (n:=N) (by omega),List.getD_eq_getElem?_getD,List.getElem?_take,if_pos (by omega),List.getD_eq_getElem?_getD]
  rw [←h1,aR,List.getD_eq_getElem?_getD,List.getElem?_append_right (by rw [bQ];exact Nat.le_refl _),bQ,Nat.sub_self];rfl
 generalize hAA:aR q m lead y N=a at *;rw [kA,if_neg (by omega),hql,Ks hA (m+1) (Nat.le_refl _)] at hn
 have hf:((bL ((s+m:Nat):Int) m:Int):Rat)≠0:=fun e=>qV (z:=((s+m:Nat):Int)) (i:=m) (by omega) (by
  have:=congrArg Rat.num e;simpa using this)
 have h0:tW q a s m 0=lead*dCo a m s:=by rw [tW,hq0,Nat.sub_zero]
 have key:∀ i,i≤m+1→sm (fun i=>sm (fun κ=>tW q a s i κ) (s+1)) i=sm (fun i=>sm (fun κ=>if i<m+κ then tW q a s i κ else 0) (s+1)) i+if m<i then tW q a s m 0 else 0:=by
  intro i
  induction i with
  | zero=>intro _;rw [sm,sm,if_neg (by omega)];grind
  | succ i ih=>
    intro hi;show sm (fun i=>sm (fun κ=>tW q a s i κ) (s+1)) i+sm (fun κ=>tW q a s i κ) (s+1)=sm (fun i=>sm (fun κ=>if i<m+κ then tW q a s i κ else 0) (s+1)) i+sm (fun κ=>if i<m+κ then tW q a s i κ else 0) (s+1)+_;rw [ih (by omega),if_neg (by omega)];rcases Nat.lt_or_ge i m with h | h
    ·rw [if_neg (by omega)]
     have e:sm (fun κ=>tW q a s i κ) (s+1)=sm (fun κ=>if i<m+κ then tW q a s i κ else 0) (s+1):=bJ fun k _=>by
      show _=if i<m+k then _ else _
      rw [if_pos (by omega)]
     rw [e];grind
    ·obtain rfl:i=m:=by omega
     rw [if_pos (by omega)]
     have e:∀ K,sm (fun κ=>tW q a s i κ) (K+1)=sm (fun κ=>if i<i+κ then tW q a s i κ else 0) (K+1)+tW q a s i 0:=by
      intro K
      induction K with
      | zero=>
        show 0+tW q a s i 0=0+(if i<i+0 then _ else 0)+tW q a s i 0;rw [if_neg (by omega)];grind
      | succ K ih2=>
        show sm (fun κ=>tW q a s i κ) (K+1)+tW q a s i (K+1)=sm (fun κ=>if i<i+κ then tW q a s i κ else 0) (K+1)+(if i<i+(K+1) then tW q a s i (K+1) else 0)+_;rw [ih2,if_pos (by omega)];grind
     rw [e];grind
 rw [key (m+1) (Nat.le_refl _),if_pos (by omega),h0,dCo,hn];generalize sm (fun i=>sm (fun κ=>if i<m+κ then tW q a s i κ else 0) (s+1)) (m+1)=X;rw [Rat.div_def]
 have hlf:lead*((bL ((s+m:Nat):Int) m:Int):Rat)≠0:=fun e=>by
  rcases Rat.mul_eq_zero.1 e with e | e
  ·exact hl e
  ·exact hf e
 have hi:=Rat.mul_inv_cancel _ hlf;generalize ((bL ((s+m:Nat):Int) m:Int):Rat)=f at *;generalize (lead*f)⁻¹=g at *
 grind
end Ord
namespace Go.Sy
open Go Go.Proofs Tryz Ord
def UC:Tr:=.ret [(W 2 0)]
def ax6:Tr:=.need (.lit 4 [[(.u 0 0),(.u 0 1),(.u 0 2),(.u 0 3)]]) (.buildSlice 167 1 #[(0,(tT 3))]) 167 false (aP 144 [(.one (.c (.sr 4 1)))] [none] [4] [167] 167 true UC)
theorem Kb:aN prog f184 (fun _=>none) [.v (some 4)]=ax6:=by kernel_rfl
def ab3:Tr:=gE 0 0 2 0 167 14 15 (eY 6 0 (some 4) 49 16 (aP 104 [(G4 7),(G4 1)] [(some 4)] [17,18] [49,49] 49 true (.need (.lit 4 [[(.u 8 0),(.u 8 1),(.u 8 2),(.u 8 3)]]) (.buildSlice 167 1 #[(0,(tT 19))]) 167 false (.need (.app 4 64 (some 3) none (some 9)) (.call ⟨.builtin .append,#[(tT 13),(tT 20)],#[167,167]⟩) 167 false (bB .add 3 11 1 2 0 3 (.back 0 [lV 11 0, .row 10]))))))
def ac1:Tr:=.loop 0 [lK 0, .nilrow] (cY 0 0 8 167 (bR .lss 3 7 9 2 0 4 0 4 (.split (.u 5 0) ab3 (aP 144 [(.one (.c (.sr 4 3)))] [none] [22] [167] 167 true (.ret [(W 6 0)])))))
theorem Tg:aN prog f186 (fun _=>none) [.v none, .v (some 4)]=ac1:=by kernel_rfl
def Vm:Tr:=gE 1 0 2 0 167 36 37 (eY 14 0 (some 4) 49 38 (aP 48 [(G4 11),(G4 15)] [(some 4)] [35,39] [49,49] 49 true (.need (.lit 4 [[(.u 16 0),(.u 16 1),(.u 16 2),(.u 16 3)]]) (.buildSlice 167 1 #[(0,(tT 42))]) 167 false (.need (.app 4 64 (some 3) none (some 17)) (.call ⟨.builtin .append,#[(tT 41),(tT 43)],#[167,167]⟩) 167 false (bB .add 3 18 1 2 0 3 (.back 0 [lV 19 0, .row 18]))))))
def NL:Tr:=.need (.app 4 64 (some 3) none (some 14)) (.call ⟨.builtin .append,#[(tT 41),(tT 43)],#[167,167]⟩) 167 false (bB .add 3 18 1 2 0 3 (.back 0 [lV 16 0, .row 15]))
def au2:Tr:=gE 0 0 2 0 167 26 27 (eY 9 0 (some 4) 49 28 (aP 48 [(G4 6),(G4 10)] [(some 4)] [25,29] [49,49] 49 true (cY 1 0 32 167 (bR .lss 3 31 33 2 0 12 0 4 (.split (.u 13 0) Vm (.need (.lit 4 [[(.u 11 0),(.u 11 1),(.u 11 2),(.u 11 3)]]) (.buildSlice 167 1 #[(0,(tT 42))]) 167 false NL))))))
def ND:Tr:=.back 0 [lV 13 0, .row 12]
def XZ:Tr:=cY 1 0 32 167 (bR .lss 3 31 33 2 0 9 0 4 (.split (.u 10 0) (gE 1 0 2 0 167 36 37 (eY 11 0 (some 4) 49 38 (aP 48 [(G4 6),(G4 12)] [(some 4)] [35,39] [49,49] 49 true (.need (.lit 4 [[(.u 13 0),(.u 13 1),(.u 13 2),(.u 13 3)]]) (.buildSlice 167 1 #[(0,(tT 42))]) 167 false NL)))) (.need (.lit 4 [[(.u 6 0),(.u 6 1),(.u 6 2),(.u 6 3)]]) (.buildSlice 167 1 #[(0,(tT 42))]) 167 false (.need (.app 4 64 (some 3) none (some 11)) (.call ⟨.builtin .append,#[(tT 41),(tT 43)],#[167,167]⟩) 167 false (bB .add 3 18 1 2 0 3 ND)))))
def VJ:Tr:=gE 1 0 2 0 167 36 37 (eY 16 0 (some 4) 49 38 (aP 48 [(G4 13),(G4 17)] [(some 4)] [35,39] [49,49] 49 true (.need (.lit 4 [[(.u 18 0),(.u 18 1),(.u 18 2),(.u 18 3)]]) (.buildSlice 167 1 #[(0,(tT 42))]) 167 false (.need (.app 4 64 (some 3) none (some 19)) (.call ⟨.builtin .append,#[(tT 41),(tT 43)],#[167,167]⟩) 167 false (bB .add 3 18 1 2 0 3 (.back 0 [lV 21 0, .row 20]))))))
def Oy:Tr:=.need (.app 4 64 (some 3) none (some 16)) (.call ⟨.builtin .append,#[(tT 41),(tT 43)],#[167,167]⟩) 167 false (bB .add 3 18 1 2 0 3 (.back 0 [lV 18 0, .row 17]))
def YC:Tr:=gE 0 0 2 0 167 26 27 (eY 11 0 (some 4) 49 28 (aP 48 [(G4 8),(G4 12)] [(some 4)] [25,29] [49,49] 49 true (cY 1 0 32 167 (bR .lss 3 31 33 2 0 14 0 4 (.split (.u 15 0) VJ (.need (.lit 4 [[(.u 13 0),(.u 13 1),(.u 13 2),(.u 13 3)]]) (.buildSlice 167 1 #[(0,(tT 42))]) 167 false Oy))))))
def YP:Tr:=cY 1 0 32 167 (bR .lss 3 31 33 2 0 11 0 4 (.split (.u 12 0) (gE 1 0 2 0 167 36 37 (eY 13 0 (some 4) 49 38 (aP 48 [(G4 8),(G4 14)] [(some 4)] [35,39] [49,49] 49 true (.need (.lit 4 [[(.u 15 0),(.u 15 1),(.u 15 2),(.u 15 3)]]) (.buildSlice 167 1 #[(0,(tT 42))]) 167 false Oy)))) (.need (.lit 4 [[(.u 8 0),(.u 8 1),(.u 8 2),(.u 8 3)]]) (.buildSlice 167 1 #[(0,(tT 42))]) 167 false (.need (.app 4 64 (some 3) none (some 13)) (.call ⟨.builtin .append,#[(tT 41),(tT 43)],#[167,167]⟩) 167 false (bB .add 3 18 1 2 0 3 (.back 0 [lV 15 0, .row 14]))))))
def WQ:Tr:=cY 1 0 14 167 (bR .lss 3 13 15 2 0 6 0 4 (.split (.u 7 0) (.need (.call 50 [(WK 0)] [(some 4)]) (.call ⟨.value (.func 50),#[(.const (I3 0))],#[2]⟩) 49 true (cY 0 0 22 167 (bR .lss 3 21 23 2 0 9 0 4 (.split (.u 10 0) YC YP)))) (aP 144 [(.one (.c (.sr 4 3)))] [none] [45] [167] 167 true (.ret [(W 8 0)]))))
def am8:Tr:=cY 0 0 9 167 (bR .lss 3 8 10 2 0 4 0 4 (.split (.u 5 0) (.need (.call 50 [(WK 0)] [(some 4)]) (.call ⟨.value (.func 50),#[(.const (I3 0))],#[2]⟩) 49 true (cY 0 0 22 167 (bR .lss 3 21 23 2 0 7 0 4 (.split (.u 8 0) au2 XZ)))) WQ))
def al9:Tr:=.loop 0 [lK 0, .nilrow] am8
theorem ah3:aN prog f185 (fun _=>none) [.v none, .v none]=al9:=by kernel_rfl
def ax3:Tr:=gE 1 0 3 0 167 17 18 (eY 7 0 (some 4) 49 19 (aP 186 [(W 0 0),(G4 8)] [none] [16,20] [167,49] 167 false (.need (.app 4 64 (some 6) (some (.u 9 0)) none) (.call ⟨.builtin .append,#[(tT 15),(tT 21)],#[167,167]⟩) 167 false (aP 185 [(W 2 0),(.one (.c (.sr 4 10)))] [none] [13,22] [167,167] 167 true (bB .add 3 11 1 3 0 3 (.back 0 [lV 11 0,lV 12 0]))))))
def av4:Tr:=.loop 0 [lN,lK 0] (cY 1 0 8 167 (bR .lss 3 7 9 3 0 4 0 4 (.split (.u 5 0) (.need (.make [(.int .i64 0),(.slice none 0 0),(.int .i64 0),(.slice none 0 0)] 64 (.u 3 0) (.u 3 0)) (.makeSlice 167 (tT 14) (tT 14)) 167 false ax3) UC)))
theorem aw3:aN prog f187 (fun _=>none) [.v none, .v none]=av4:=by kernel_rfl
def ac0:Tr:=gE 0 0 6 0 167 18 19 (eY 9 0 (some 4) 49 20 (aP 186 [(W 5 0),(G4 10)] [none] [17,21] [167,49] 167 true (aP 185 [(W 4 0),(W 11 0)] [none] [16,22] [167,167] 167 true (aP 187 [(W 5 0),(W 1 0)] [none] [24,25] [167,167] 167 true (bB .add 3 14 1 6 0 3 (.back 0 [lV 12 0,lV 13 0,lV 14 0]))))))
def ae5:Tr:=.need (.call 50 [(WK 1)] [(some 4)]) (.call ⟨.value (.func 50),#[(.const (I3 1))],#[2]⟩) 49 true (aP 184 [(G4 2)] [none] [8] [49] 167 true (.loop 0 [lN,lV 3 0,lK 0] (cY 0 0 11 167 (bR .lss 3 10 12 6 0 7 0 4 (.split (.u 8 0) ac0 (.ret [(W 4 0)]))))))
theorem Lx:aN prog f106 (fun _=>none) [.v none, .v none]=ae5:=by kernel_rfl
def eG (p:List RQ) (c:Rat):List RQ:=p.map fun a=>.of (a.q*c)
theorem eO (p:List RQ) (c:Rat):(eG p c).length=p.length:=List.length_map _
theorem IG (a:RQ):aK prog 184 [(jM a:aG)] (.ret [.one (sR (dZ [a]))]):=by
 refine aD (args:=[.v (some 4)]) (ins:=[.v (jM a)]) (hints:=(fun _=>none)) fo (by kernel_rfl) func184 ⟨rfl,trivial⟩ ?_;rw [Kb];dsimp only [List.map,In.env,aA,aB];refine dC (us:=rR [a]) rfl ?_;dsimp only [aA,aB];refine aC (yU [a] (by simp)) rfl ?_;exact aL rfl
theorem Kp (p:List RQ) (c:RQ) (A B:Nat) (hp:∀ x∈p,Fit A x.q) (hc:Fit B c.q) (hB:A+B≤4294967296) (hs:p.length<1099511627776):aK prog 186 [(.one (sR p):aG),(jM c:aG)] (.ret [.one (sR (dZ (eG p c.q)))]):=by
 refine aD (args:=[.v none, .v (some 4)]) (ins:=[.v (.one (sR p)), .v (jM c)]) (hints:=(fun _=>none)) fo (by kernel_rfl) func186 ⟨rfl,rfl,trivial⟩ ?_;rw [Tg];dsimp only [List.map,In.env,aA,aB];refine bF {i:Nat // i≤p.length} (fun g=>[.one (.int .i64 g.1), .rows (rR (eG (p.take g.1) c.q))]) (fun g=>p.length-g.1) ⟨0,Nat.zero_le _⟩ aO.rfl (fun _=>rfl) ?_;rintro ⟨i,hi⟩;dsimp only [aA,aB] at hi ⊢;refine vn (aQ fB (List.length_map _)) rfl ?_;dsimp only [aA,aB];refine vn bE rfl ?_;dsimp only [aA,aB];refine vs _ rfl (fun h3=>?_) (fun h3=>?_)
 ·obtain ⟨x,hx⟩:∃ x,p[i]? = some x:=⟨_,List.getElem?_eq_getElem (by omega)⟩
  refine vn (aY fB (by omega) (by omega) hx) rfl ?_;dsimp only [aA,aB];refine vn (bZ CN (by decide) (by simp) (.inl rfl)) rfl ?_;dsimp only [aA,aB];refine aC (tR x c A B (hp x (List.mem_of_getElem? hx)) hc hB) rfl ?_;dsimp only [aA,aB];refine dC (us:=rR [.of (x.q*c.q)]) rfl ?_;dsimp only [aA,aB];refine qI (xs:=eG (p.take i) c.q) (x:=.of (x.q*c.q)) (f:=rC) rfl rfl (by rw [eO,List.length_take];omega) (by rw [eO,List.length_take];simp only [maxLen];omega) ?_;rw [show eG (p.take i) c.q ++ [.of (x.q*c.q)]=eG (p.take (i+1)) c.q from qH (f:=fun a:RQ=>RQ.of (a.q*c.q)) hx];dsimp only [aA,aB];refine vn (aE (by omega) (by omega)) rfl ?_;dsimp only [aA,aB];exact aU rfl ⟨⟨i+1,by omega⟩,aO.rfl,by show p.length-(i+1)<p.length-i;omega⟩
 rw [show i=p.length by omega,List.take_length];refine aC (yU (eG p c.q) (by rw [eO];exact hs)) rfl ?_;exact aL rfl
def atR (p:List RQ) (i:Nat):Rat:=((p.map RQ.q).getD i 0)
theorem jX {p:List RQ} {i:Nat} {x:RQ} (h:p[i]? = some x):atR p i=x.q:=by
 rw [atR,List.getD_eq_getElem?_getD,List.getElem?_map,h];rfl
theorem Im {p:List RQ} {i:Nat} (h:p.length≤i):atR p i=0:=by
 rw [atR,List.getD_eq_getElem?_getD,List.getElem?_eq_none (by simpa using h)];rfl
def Ae (a b:List RQ) (i:Nat):List RQ:=(List.range i).map fun k=>.of (atR a k+atR b k)
theorem tD (a b:List RQ) (i:Nat):(Ae a b i).length=i:=by simp [Ae]
theorem Am (a b:List RQ) (i:Nat):Ae a b i ++ [.of (atR a i+atR b i)]=Ae a b (i+1):=by simp [Ae,List.range_succ]
theorem TG (a b:List RQ) (A B:Nat) (ha:∀ x∈a,Fit A x.q) (hb:∀ x∈b,Fit B x.q) (hB:2*A+2*B≤1073741824) (h64:64≤A) (h64':64≤B) (hs:a.length<1099511627776) (hs2:b.length<1099511627776):aK prog 185 [(.one (sR a):aG),(.one (sR b):aG)] (.ret [.one (sR (dZ (Ae a b (max a.length b.length))))]):=by
 refine aD (args:=[.v none, .v none]) (ins:=[.v (.one (sR a)), .v (.one (sR b))]) (hints:=(fun _=>none)) fo (by kernel_rfl) func185 ⟨rfl,rfl,trivial⟩ ?_;rw [ah3];dsimp only [List.map,In.env,aA,aB];have h0:Fit 64 (RQ.of ((0:Int):Rat)).q:=Fit.zero (by omega);refine bF {i:Nat // i≤max a.length b.length} (fun g=>[.one (.int .i64 g.1), .rows (rR (Ae a b g.1))]) (fun g=>max a.length b.length-g.1) ⟨0,Nat.zero_le _⟩ aO.rfl (fun _=>rfl) ?_;rintro ⟨i,hi⟩;dsimp only [aA,aB] at hi ⊢;have hsl:=tD a b i;refine vn (aQ fB (List.length_map _)) rfl ?_;dsimp only [aA,aB];refine vn bE rfl ?_;dsimp only [aA,aB];refine vs _ rfl (fun h3=>?_) (fun h3=>?_)
 ·refine aC (rM 0 (by omega) (by omega)) rfl ?_;dsimp only [aA,aB];refine vn (aQ fB (List.length_map _)) rfl ?_;dsimp only [aA,aB];refine vn bE rfl ?_;dsimp only [aA,aB];refine vs _ rfl (fun h7=>?_) (fun h7=>?_)
  ·obtain ⟨x,hx⟩:∃ x,a[i]? = some x:=⟨_,List.getElem?_eq_getElem (by omega)⟩
   have hxA:=ha x (List.mem_of_getElem? hx);refine vn (aY fB (by omega) (by omega) hx) rfl ?_;dsimp only [aA,aB];refine vn (bZ CN (by decide) (by simp) (.inl rfl)) rfl ?_;dsimp only [aA,aB];refine aC (wA (.of ((0:Int):Rat)) x 64 A h0 hxA (by omega)) rfl ?_;dsimp only [aA,aB];refine vn (aQ fB (List.length_map _)) rfl ?_;dsimp only [aA,aB];refine vn bE rfl ?_;dsimp only [aA,aB];refine vs _ rfl (fun h13=>?_) (fun h13=>?_)
   ·obtain ⟨y,hy⟩:∃ y,b[i]? = some y:=⟨_,List.getElem?_eq_getElem (by omega)⟩
    refine vn (aY fB (by omega) (by omega) hy) rfl ?_;dsimp only [aA,aB];refine vn (bZ CN (by decide) (by simp) (.inl rfl)) rfl ?_;dsimp only [aA,aB];refine aC (wA (.of ((RQ.of ((0:Int):Rat)).q+x.q)) y (64+A+1) B (h0.add hxA) (hb y (List.mem_of_getElem? hy)) (by omega)) rfl ?_;rw [show (RQ.of ((RQ.of ((0:Int):Rat)).q+x.q)).q+y.q=atR a i+atR b i by rw [jX hx,jX hy];show ((0:Int):Rat)+x.q+y.q=_;grind];dsimp only [aA,aB];refine dC (us:=rR [.of (atR a i+atR b i)]) rfl ?_;dsimp only [aA,aB];refine qI (xs:=Ae a b i) (x:=.of (atR a i+atR b i)) (f:=rC) rfl rfl (by omega) (by simp only [maxLen];omega) ?_;rw [Am];dsimp only [aA,aB];refine vn (aE (by omega) (by omega)) rfl ?_;dsimp only [aA,aB];exact aU rfl ⟨⟨i+1,by omega⟩,aO.rfl,by show max a.length b.length-(i+1)<max a.length b.length-i;omega⟩
   rw [show (RQ.of ((0:Int):Rat)).q+x.q=atR a i+atR b i by rw [jX hx,Im (p:=b) (by omega)];show ((0:Int):Rat)+x.q=_;grind];refine dC (us:=rR [.of (atR a i+atR b i)]) rfl ?_;dsimp only [aA,aB];refine qI (xs:=Ae a b i) (x:=.of (atR a i+atR b i)) (f:=rC) rfl rfl (by omega) (by simp only [maxLen];omega) ?_;rw [Am];dsimp only [aA,aB];refine vn (aE (by omega) (by omega)) rfl ?_;dsimp only [aA,aB];exact aU rfl ⟨⟨i+1,by omega⟩,aO.rfl,by show max a.length b.length-(i+1)<max a.length b.length-i;omega⟩
  exfalso;omega
 refine vn (aQ fB (List.length_map _)) rfl ?_;dsimp only [aA,aB];refine vn bE rfl ?_;dsimp only [aA,aB];refine vs _ rfl (fun h41=>?_) (fun h41=>?_)
 ·refine aC (rM 0 (by omega) (by omega)) rfl ?_;dsimp only [aA,aB];refine vn (aQ fB (List.length_map _)) rfl ?_;dsimp only [aA,aB];refine vn bE rfl ?_;dsimp only [aA,aB];refine vs _ rfl (fun h45=>?_) (fun h45=>?_)
  ·exfalso;omega
  refine vn (aQ fB (List.length_map _)) rfl ?_;dsimp only [aA,aB];refine vn bE rfl ?_;dsimp only [aA,aB];refine vs _ rfl (fun h65=>?_) (fun h65=>?_)
  ·obtain ⟨y,hy⟩:∃ y,b[i]? = some y:=⟨_,List.getElem?_eq_getElem (by omega)⟩
   refine vn (aY fB (by omega) (by omega) hy) rfl ?_;dsimp only [aA,aB];refine vn (bZ CN (by decide) (by simp) (.inl rfl)) rfl ?_;dsimp only [aA,aB];refine aC (wA (.of ((0:Int):Rat)) y 64 B h0 (hb y (List.mem_of_getElem? hy)) (by omega)) rfl ?_;rw [show (RQ.of ((0:Int):Rat)).q+y.q=atR a i+atR b i by rw [jX hy,Im (p:=a) (by omega)];show ((0:Int):Rat)+y.q=_;grind];dsimp only [aA,aB];refine dC (us:=rR [.of (atR a i+atR b i)]) rfl ?_;dsimp only [aA,aB];refine qI (xs:=Ae a b i) (x:=.of (atR a i+atR b i)) (f:=rC) rfl rfl (by omega) (by simp only [maxLen];omega) ?_;rw [Am];dsimp only [aA,aB];refine vn (aE (by omega) (by omega)) rfl ?_;dsimp only [aA,aB];exact aU rfl ⟨⟨i+1,by omega⟩,aO.rfl,by show max a.length b.length-(i+1)<max a.length b.length-i;omega⟩
  exfalso;omega
 rw [show i=max a.length b.length by omega];refine aC (yU (Ae a b (max a.length b.length)) (by rw [tD];omega)) rfl ?_;exact aL rfl
def Mc (a b:List RQ):List RQ:=dZ (Ae a b (max a.length b.length))
theorem qD (p:List RQ):(dZ p).length≤p.length:=by rw [xA];exact gL p
theorem NW (a b:List RQ):(Mc a b).length≤max a.length b.length:=Nat.le_trans (qD _) (by rw [tD];exact Nat.le_refl _)
def mulR (a b:List RQ):Nat→List RQ
 | 0=>[]
 | i+1=>Mc (mulR a b i) (List.replicate i .nil++dZ (eG a (atR b i)))
theorem GJ (a b:List RQ):∀ i,(mulR a b i).length≤a.length+i
 | 0=>Nat.zero_le _
 | i+1=>by
   rw [mulR];refine Nat.le_trans (NW _ _) ?_;have h1:=GJ a b i;have h2:=qD (eG a (atR b i));rw [eO] at h2;rw [List.length_append,List.length_replicate];omega
theorem ap9 (n:Nat) (us:List RQ):aX (aX aI.Sub) (List.replicate n z4++rR us) (rR (List.replicate n .nil++us)):=by
 rw [show rR (List.replicate n RQ.nil++us)=List.replicate n (rC .nil)++rR us by rw [rR,List.map_append,List.map_replicate]];exact aX.append (sZ Bv n) (aX.lP (aX.lP aI.Sub.refl) _)
set_option maxHeartbeats 1000000 in
theorem aA8 (a b:List RQ) (A B F:Nat) (ha:∀ x∈a,Fit A x.q) (hb:∀ x∈b,Fit B x.q) (hF:∀ i,i≤b.length→∀ x∈mulR a b i,Fit F x.q) (hB:2*F+2*(A+B)≤1073741824) (h64:64≤A) (h64':64≤F) (hs:a.length≤1073741824) (hs2:b.length≤1073741824):aK prog 187 [(.one (sR a):aG),(.one (sR b):aG)] (.ret [.one (sR (mulR a b b.length))]):=by
 refine aD (args:=[.v none, .v none]) (ins:=[.v (.one (sR a)), .v (.one (sR b))]) (hints:=(fun _=>none)) fo (by kernel_rfl) func187 ⟨rfl,rfl,trivial⟩ ?_;rw [aw3];dsimp only [List.map,In.env,aA,aB];refine bF {i:Nat // i≤b.length} (fun g=>[.one (sR (mulR a b g.1)), .one (.int .i64 g.1)]) (fun g=>b.length-g.1) ⟨0,Nat.zero_le _⟩ ⟨aI.Sub.nil,aG.Sub.same,trivial⟩ (fun _=>rfl) ?_;rintro ⟨i,hi⟩;dsimp only [aA,aB] at hi ⊢;refine vn (aQ fB (List.length_map _)) rfl ?_;dsimp only [aA,aB];refine vn bE rfl ?_;dsimp only [aA,aB];refine vs _ rfl (fun h3=>?_) (fun h3=>?_)
 ·obtain ⟨x,hx⟩:∃ x,b[i]? = some x:=⟨_,List.getElem?_eq_getElem (by omega)⟩
  have hat:=jX hx;have hml:=GJ a b i;have htl:=qD (eG a x.q);rw [eO] at htl;have hlen:(List.replicate i z4++rR (dZ (eG a x.q))).length=i+(dZ (eG a x.q)).length:=by rw [List.length_append,List.length_replicate,List.length_map]
  refine tI (n:=i) (m:=i) (us:=List.replicate i z4) rfl rfl rfl (Nat.le_refl _) (by omega) (by simp only [maxLen];omega) ?_;dsimp only [aA,aB];refine vn (aY fB (by omega) (by omega) hx) rfl ?_;dsimp only [aA,aB];refine vn (bZ CN (by decide) (by simp) (.inl rfl)) rfl ?_;dsimp only [aA,aB];refine aC (Kp a x A B ha (hb x (List.mem_of_getElem? hx)) (by omega) (by omega)) rfl ?_;dsimp only [aA,aB];refine vA (ts:=List.replicate i z4) (us:=rR (dZ (eG a x.q))) (vs:=List.replicate i z4++rR (dZ (eG a x.q))) rfl (.inr aI.Sub.same) rfl (by rw [hlen];omega) (by rw [hlen];simp only [maxLen];omega) ?_;dsimp only [aA,aB];refine BW (show aO _ [.one (sR (mulR a b i)), .one (sR (List.replicate i .nil++dZ (eG a x.q)))] from ⟨aG.Sub.same,aI.Sub.slice (ap9 i _),trivial⟩) (TG _ _ F (A+B) (hF i hi) (fun y hy=>?_) (by omega) (by omega) (by omega) (by omega) (by rw [List.length_append,List.length_replicate];omega)) rfl ?_
  ·rcases List.mem_append.1 hy with h | h
   ·rw [(List.mem_replicate.1 h).2];exact Fit.zero (by omega)
   ·obtain ⟨u,hu,rfl⟩:=List.mem_map.1 (List.mem_of_mem_take h);exact (ha u hu).mul (hb x (List.mem_of_getElem? hx))
  dsimp only [aA,aB];refine vn (aE (by omega) (by omega)) rfl ?_;dsimp only [aA,aB];exact aU rfl ⟨⟨i+1,by omega⟩,aO.of_eq (by dsimp only;rw [mulR,hat];rfl),by show b.length-(i+1)<b.length-i;omega⟩
 rw [show b.length=i by omega];exact aL rfl
def pU (q:List RQ):Nat→List RQ
 | 0=>dZ [.of ((1:Int):Rat)]
 | i+1=>mulR (pU q i) q q.length
theorem Hf (q:List RQ):∀ i,(pU q i).length≤1+i*q.length
 | 0=>by rw [pU,Nat.zero_mul];exact qD _
 | i+1=>by
   have h1:=GJ (pU q i) q q.length;have h2:=Hf q i;rw [pU,Nat.add_mul];omega
def gV (p q:List RQ):Nat→List RQ
 | 0=>[]
 | i+1=>Mc (gV p q i) (dZ (eG (pU q i) (atR p i)))
theorem DH (p q:List RQ):∀ i,(gV p q i).length≤1+i*q.length
 | 0=>Nat.zero_le _
 | i+1=>by
   have h1:=DH p q i;have h2:=Hf q i;have h3:=qD (eG (pU q i) (atR p i));rw [eO] at h3;rw [gV,Nat.add_mul];refine Nat.le_trans (NW _ _) ?_;omega
structure Kt (F:Nat) (p q:List RQ):Prop where
 fp:∀ x∈p,Fit F x.q
 fq:∀ x∈q,Fit F x.q
 fw:∀ i,i≤p.length→∀ x∈pU q i,Fit F x.q
 fm:∀ i,i≤p.length→∀ j,j≤q.length→∀ x∈mulR (pU q i) q j,Fit F x.q
 fc:∀ i,i≤p.length→∀ x∈gV p q i,Fit F x.q
set_option maxHeartbeats 1000000 in
theorem Lh (p q:List RQ) (F:Nat) (C:Kt F p q) (hF:F≤100000000) (h64:64≤F) (hl:1+(p.length+1)*q.length≤1073741824) (hs:p.length≤1073741824):aK prog 106 [(.one (sR p):aG),(.one (sR q):aG)] (.ret [.one (sR (gV p q p.length))]):=by
 refine aD (args:=[.v none, .v none]) (ins:=[.v (.one (sR p)), .v (.one (sR q))]) (hints:=(fun _=>none)) fo (by kernel_rfl) func106 ⟨rfl,rfl,trivial⟩ ?_;rw [Lx];dsimp only [List.map,In.env,aA,aB];have hql:q.length≤1073741824:=by rw [Nat.add_mul] at hl;omega
 refine aC (rM 1 (by omega) (by omega)) rfl ?_;dsimp only [aA,aB];refine aC (IG (.of ((1:Int):Rat))) rfl ?_;dsimp only [aA,aB];refine bF {i:Nat // i≤p.length} (fun g=>[.one (sR (gV p q g.1)), .one (sR (pU q g.1)), .one (.int .i64 g.1)]) (fun g=>p.length-g.1) ⟨0,Nat.zero_le _⟩ ⟨aI.Sub.nil,aG.Sub.same,aG.Sub.same,trivial⟩ (fun _=>rfl) ?_;rintro ⟨i,hi⟩;dsimp only [aA,aB] at hi ⊢;refine vn (aQ fB (List.length_map _)) rfl ?_;dsimp only [aA,aB];refine vn bE rfl ?_;dsimp only [aA,aB];refine vs _ rfl (fun h5=>?_) (fun h5=>?_)
 ·obtain ⟨x,hx⟩:∃ x,p[i]? = some x:=⟨_,List.getElem?_eq_getElem (by omega)⟩
  have hat:=jX hx;have hxF:=C.fp x (List.mem_of_getElem? hx);have hw:=Hf q i;have hcl:=DH p q i;have hil:i*q.length≤(p.length+1)*q.length:=Nat.mul_le_mul_right _ (by omega);have htl:=qD (eG (pU q i) x.q);rw [eO] at htl;refine vn (aY fB (by omega) (by omega) hx) rfl ?_;dsimp only [aA,aB];refine vn (bZ CN (by decide) (by simp) (.inl rfl)) rfl ?_;dsimp only [aA,aB];refine aC (Kp (pU q i) x F F (C.fw i hi) hxF (by omega) (by omega)) rfl ?_;dsimp only [aA,aB]
  refine aC (TG (gV p q i) (dZ (eG (pU q i) x.q)) F (F+F) (C.fc i hi) (fun y hy=>by
   obtain ⟨u,hu,rfl⟩:=List.mem_map.1 (List.mem_of_mem_take hy);exact (C.fw i hi u hu).mul hxF) (by omega) (by omega) (by omega) (by omega) (by omega)) rfl ?_
  dsimp only [aA,aB];refine aC (aA8 (pU q i) q F F F (C.fw i hi) C.fq (C.fm i hi) (by omega) (by omega) (by omega) (by omega) hql) rfl ?_;dsimp only [aA,aB];refine vn (aE (by omega) (by omega)) rfl ?_;dsimp only [aA,aB];exact aU rfl ⟨⟨i+1,by omega⟩,aO.of_eq (by dsimp only;rw [gV,pU,hat];rfl),by show p.length-(i+1)<p.length-i;omega⟩
 rw [show p.length=i by omega];exact aL rfl
open Go Go.Proofs Tryz Ord
def aC7:Tr:=eY 6 0 none 167 16 (.need (.call 50 [(WK 1)] [(some 4)]) (.call ⟨.value (.func 50),#[(.const (I3 1))],#[2]⟩) 49 false (.need (.lit 4 [[(.u 1 0),(.u 1 1),(.u 1 2),(.u 1 3)],[(.u 8 0),(.u 8 1),(.u 8 2),(.u 8 3)]]) (.buildSlice 167 2 #[(0,(tT 18)),(1,(tT 19))]) 167 false (aP 106 [(W 7 0),(.one (.c (.sr 4 9)))] [none] [17,20] [167,167] 167 true (.need (.lit 1 [[(.u 10 0)]]) (.buildSlice 44 1 #[(0,(tT 21))]) 44 false (.need (.app 1 24 (some 3) none (some 11)) (.call ⟨.builtin .append,#[(tT 13),(tT 22)],#[44,44]⟩) 44 false (bB .add 3 11 1 2 0 3 ND))))))
def au6:Tr:=.loop 0 [lK 0, .nilrow] (cY 0 0 8 44 (bR .lss 3 7 9 2 0 4 0 4 (.split (.u 5 0) (gE 0 0 2 0 44 14 15 aC7) (.ret [(.one (.c (.sr 1 3)))]))))
theorem TW:aN prog f125 (fun _=>none) [.v none, .v (some 4)]=au6:=by kernel_rfl
def Ok (e:List (List RQ)) (c:RQ):List (List RQ):=e.map fun p=>gV p [c, .of ((1:Int):Rat)] p.length
theorem QO (e:List (List RQ)) (c:RQ) (F:Nat) (C:∀ p∈e,Kt F p [c, .of ((1:Int):Rat)]∧p.length≤1048576) (hF:F≤100000000) (h64:64≤F) (hs:e.length<1048576):aK prog 125 [(.one (eR e):aG),(jM c:aG)] (.ret [.one (eR (Ok e c))]):=by
 refine aD (args:=[.v none, .v (some 4)]) (ins:=[.v (.one (eR e)), .v (jM c)]) (hints:=(fun _=>none)) fo (by kernel_rfl) func125 ⟨rfl,rfl,trivial⟩ ?_;rw [TW];dsimp only [List.map,In.env,aA,aB];refine bF {i:Nat // i≤e.length} (fun g=>[.one (.int .i64 g.1), .rows ((Ok (e.take g.1) c).map cR)]) (fun g=>e.length-g.1) ⟨0,Nat.zero_le _⟩ aO.rfl (fun _=>rfl) ?_;rintro ⟨i,hi⟩;dsimp only [aA,aB] at hi ⊢;have hsl:(Ok (e.take i) c).length=i:=by rw [Ok,List.length_map,List.length_take];omega
 refine vn (aQ xP (List.length_map _)) rfl ?_;dsimp only [aA,aB];refine vn bE rfl ?_;dsimp only [aA,aB];refine vs _ rfl (fun h3=>?_) (fun h3=>?_)
 ·obtain ⟨p,hp⟩:∃ p,e[i]? = some p:=⟨_,List.getElem?_eq_getElem (by omega)⟩
  obtain ⟨hC,hl⟩:=C p (List.mem_of_getElem? hp);refine vn (aY xP (by omega) (by omega) hp) rfl ?_;dsimp only [aA,aB];refine vn (bH xC) rfl ?_;dsimp only [aA,aB];refine aC (rM 1 (by omega) (by omega)) rfl ?_;dsimp only [aA,aB];refine dC (us:=rR [c, .of ((1:Int):Rat)]) rfl ?_;dsimp only [aA,aB];refine aC (Lh p [c, .of ((1:Int):Rat)] F hC hF h64 (by simp only [List.length_cons,List.length_nil];omega) (by omega)) rfl ?_;dsimp only [aA,aB];refine dC (us:=[cR (gV p [c, .of ((1:Int):Rat)] p.length)]) rfl ?_;dsimp only [aA,aB];refine qI (xs:=Ok (e.take i) c) (x:=gV p [c, .of ((1:Int):Rat)] p.length) (f:=cR) rfl rfl (by omega) (by simp only [maxLen];omega) ?_;rw [show Ok (e.take i) c ++ [gV p [c, .of ((1:Int):Rat)] p.length]=Ok (e.take (i+1)) c from qH (f:=fun p:List RQ=>gV p [c, .of ((1:Int):Rat)] p.length) hp];dsimp only [aA,aB];refine vn (aE (by omega) (by omega)) rfl ?_;dsimp only [aA,aB];exact aU rfl ⟨⟨i+1,by omega⟩,aO.rfl,by show e.length-(i+1)<e.length-i;omega⟩
 rw [show i=e.length by omega,List.take_length];exact aL rfl
theorem Hz {B:Nat} {q:List (List Rat)} {m:Nat} {lead:Rat} {y:List Rat} {N:Nat} (C:gP B q m lead y N):∀ {n:Nat},n≤N→∀ {b:Rat},b∈aR q m lead y n→Fit B b
 | 0,_,b,hb=>by cases hb
 | n+1,hn,b,hb=>by
   rw [aR] at hb;rcases List.mem_append.1 hb with h | h
   ·exact Hz C (by omega) h
   ·rw [List.mem_singleton.1 h];exact C.fa n (by omega)
open Go Go.Proofs Tryz Ord
theorem Sb (a b:List RQ):(Mc a b).map RQ.q=Hb (a.map RQ.q) (b.map RQ.q):=by
 rw [Mc,qO,Hb,List.length_map,List.length_map,Ae,List.map_map];rfl
theorem NJ (x:Rat) (a b:List RQ):ev ((Mc a b).map RQ.q) x=ev (a.map RQ.q) x+ev (b.map RQ.q) x:=by rw [Sb,ML]
theorem FV (x:Rat) (p:List RQ) (c:Rat):ev ((dZ (eG p c)).map RQ.q) x=ev (p.map RQ.q) x*c:=by
 rw [qO,kX,eG,List.map_map,show (RQ.q ∘ fun a:RQ=>RQ.of (a.q*c))=(fun a=>a*c) ∘ RQ.q from rfl,←List.map_map,ME]
theorem MR (x:Rat) (a b:List RQ):∀ i,i≤b.length→ev ((mulR a b i).map RQ.q) x=ev (a.map RQ.q) x*ev ((b.map RQ.q).take i) x
 | 0,_=>by rw [mulR,List.take_zero];show (0:Rat)=_;rw [dI];grind
 | i+1,hi=>by
   obtain ⟨z,hz⟩:∃ z,b[i]? = some z:=⟨_,List.getElem?_eq_getElem (by omega)⟩
   have hz':(b.map RQ.q)[i]? = some z.q:=by rw [List.getElem?_map,hz];rfl
   rw [mulR,NJ,MR x a b i (by omega),List.map_append,Fy,List.map_replicate,show RQ.q .nil=0 from rfl,KW,List.length_replicate,FV,jX hz,kR hz']
   grind
theorem MX (x:Rat) (q:List RQ):∀ i,ev ((pU q i).map RQ.q) x=ev (q.map RQ.q) x^i
 | 0=>by
   rw [pU,qO,kX,Rat.pow_zero];show ev [((1:Int):Rat)] x=1;rw [bM,dI];grind
 | i+1=>by
   rw [pU,MR x _ q q.length (Nat.le_refl _),MX x q i,Rat.pow_succ,List.take_of_length_le (by rw [List.length_map];exact Nat.le_refl _)]
theorem Kc (x:Rat) (p q:List RQ):∀ i,i≤p.length→ev ((gV p q i).map RQ.q) x=ev ((p.map RQ.q).take i) (ev (q.map RQ.q) x)
 | 0,_=>by rw [gV,List.take_zero];rfl
 | i+1,hi=>by
   obtain ⟨z,hz⟩:∃ z,p[i]? = some z:=⟨_,List.getElem?_eq_getElem (by omega)⟩
   have hz':(p.map RQ.q)[i]? = some z.q:=by rw [List.getElem?_map,hz];rfl
   rw [gV,NJ,Kc x p q i (by omega),FV,MX,jX hz,kR hz']
   grind
theorem Kn (p q:List RQ):∀ i,rV ((gV p q i).map RQ.q)
 | 0=>fun a h=>by cases h
 | i+1=>by rw [gV,Sb];exact Ds _ _
theorem Xs (p:List RQ) (c:RQ):(gV p [c, .of ((1:Int):Rat)] p.length).map RQ.q=dD (p.map RQ.q) c.q:=by
 refine HI (Kn _ _ _) (lM _ _) fun x=>?_;rw [Kc x p _ p.length (Nat.le_refl _),List.take_of_length_le (by rw [List.length_map];exact Nat.le_refl _),lF]
 congr 1
 show ev [c.q,((1:Int):Rat)] x=_;rw [bM,bM,dI];grind
theorem aR1 (e:List (List RQ)) (c:RQ):uX (Ok e c)=(uX e).map (dD · c.q):=by
 rw [uX,Ok,uX,List.map_map,List.map_map];exact List.map_congr_left fun p _=>Xs p c
end Go.Sy
