/- The coefficients of a solution have few bits. The polynomial of the first coefficients satisfies the equation up to high terms: plain laws. The reference's polynomials. The reference's shifted equations, its series. The reference's shifted polynomials are the program's.
-/
import Derived.Test.YtdmcadckdnnglaaGreatDoorQa
import Derived.Test.YtdmcadckdnnglaaGreatDoorQf
set_option linter.unusedVariables false
set_option linter.unusedSimpArgs false
namespace Ord
theorem Bd.inv {E T:Nat} {r:Rat} (h1:E≠0) (h:Bd E T r) (hr:r≠0):Bd r.num.natAbs E r⁻¹:=by
 have hn:r.num≠0:=fun e=>hr (Rat.num_eq_zero.1 e);have hd:=Nat.le_of_dvd (by omega) h.1;unfold Bd;rw [Rat.num_inv,Rat.den_inv,if_neg hn,Int.natAbs_mul,Int.natAbs_sign_of_ne_zero hn,Int.natAbs_natCast,Nat.one_mul];exact ⟨Nat.dvd_refl _,Nat.le_trans hd (Nat.le_mul_of_pos_right _ (by omega))⟩
theorem Bd.div {D E S T:Nat} {a r:Rat} (h0:D≠0) (h1:E≠0) (ha:Bd D S a) (h:Bd E T r) (hr:r≠0):Bd (D*r.num.natAbs) (S*E) (a/r):=by
 rw [Rat.div_def];exact ha.mul h0 (fun e=>hr (Rat.num_eq_zero.1 (by omega))) (h.inv h1 hr)
theorem Bd.Rg {D S:Nat} {q:Rat} (h0:D≠0) (h:Bd D S q):q.num.natAbs≤S*D:=Nat.le_trans h.2 (Nat.mul_le_mul_left _ (Nat.le_of_dvd (by omega) h.1))
theorem JP {z:Int} (h:z≠0):(z:Rat)≠0:=fun e=>h (by have:=congrArg Rat.num e;simpa using this)
section
variable {q:List (List Rat)} {a:List Rat} {m n D S X A F L:Nat}
theorem vP {p:List Rat} {i:Nat} {x:Rat} {Y:Nat} (h0:D≠0) (h1:X≠0) (hp:∀ b∈p,Bd D S b) (ha:∀ b∈a,Bd X A b) (hF:∀ z:Int,z.natAbs≤n+m→(dC z i).natAbs≤F) (hi:i≤m) (hx:Bd (D*X) Y x) :
  ∀ k,k≤n-m+1→m≤n→Bd (D*X) (Y+k*(S*F*A)) (inner p a m n i x k)
 | 0,_,_=>by simpa [inner] using hx
 | k+1,hk,hmn=>by
   have ih:=vP h0 h1 hp ha hF hi hx k (by omega) hmn;have hm:Y+k*(S*F*A)≤Y+(k+1)*(S*F*A):=by rw [Nat.add_mul];omega
   rw [inner];split
   ·have hpk:Bd D S (p.getD k 0):=by
     rw [List.getD_eq_getElem?_getD];cases h:p[k]? with
     | none=>exact Bd.zero
     | some b=>exact hp b (List.mem_of_getElem? h)
    have hak:Bd X A (a.getD (n-(m+k-i)) 0):=by
     rw [List.getD_eq_getElem?_getD];cases h:a[n-(m+k-i)]? with
     | none=>exact Bd.zero
     | some b=>exact ha b (List.mem_of_getElem? h)
    have hf:Bd 1 F ((dC ((n:Int)-((m:Int)+k-i)) i:Int):Rat):=Bd.int (hF _ (by omega));have h2:=(hpk.mul h0 (by omega) hf).mul (by omega) h1 hak;rw [Nat.mul_one] at h2;have h3:=ih.sub (Nat.mul_ne_zero h0 h1) h2;rw [Nat.add_mul,Nat.one_mul,←Nat.add_assoc];exact h3
   ·exact ih.le hm
theorem wH (h0:D≠0) (h1:X≠0) (hq:∀ p∈q,p.length≤L∧∀ b∈p,Bd D S b) (ha:∀ b∈a,Bd X A b) (hF:∀ i,i≤m→∀ z:Int,z.natAbs≤n+m→(dC z i).natAbs≤F) (hmn:m≤n) :
  ∀ i,i≤m+1→Bd (D*X) (i*(L*(S*F*A))) (outer q a m n i)
 | 0,_=>by simpa [outer] using Bd.zero
 | i+1,hi=>by
   have ih:=wH h0 h1 hq ha hF hmn i (by omega)
   have hp:(q.getD i []).length≤L∧∀ b∈q.getD i [],Bd D S b:=by
    rw [List.getD_eq_getElem?_getD];cases h:q[i]? with
    | none=>exact ⟨Nat.zero_le _,fun b hb=>by cases hb⟩
    | some p=>exact hq p (List.mem_of_getElem? h)
   rw [outer];refine (vP h0 h1 hp.2 ha (hF i (by omega)) (by omega) ih _ (Nat.min_le_right _ _) hmn).le ?_;rw [Nat.add_mul i 1,Nat.one_mul];exact Nat.add_le_add_left (Nat.mul_le_mul_right _ (Nat.le_trans (Nat.min_le_left _ _) hp.1)) _
end
structure RN (q:List (List Rat)) (m:Nat) (lead:Rat) (y:List Rat) (D S E T L:Nat):Prop where
 d0:D≠0
 e0:E≠0
 s1:1≤S
 t1:1≤T
 l1:1≤L
 hq:∀ p∈q,p.length≤L∧∀ b∈p,Bd D S b
 hl:Bd D S lead
 l0:lead≠0
 hy:∀ b∈y,Bd E T b
 ql:q.length=m+1
def fM (m N:Nat):Nat:=(N+m+m)^m
def hU (m N D S E:Nat):Nat:=E*fM m N+D*(S*fM m N*D)
def cR (m N D S L:Nat):Nat:=(m+1)*(L*(S*fM m N))*D
theorem Ko {m N n:Nat} (hn:n<N):∀ i,i≤m→∀ z:Int,z.natAbs≤n+m→(dC z i).natAbs≤fM m N:=fun i hi z hz=>
 Nat.le_trans (oG (N:=N+m+m) i (by omega)) (Nat.pow_le_pow_right (by omega) hi)
theorem JA {q:List (List Rat)} {m:Nat} {lead:Rat} {y:List Rat} {D S E T L N:Nat} (C:RN q m lead y D S E T L) (hmN:m≤N) :
  ∀ n,n≤N→∃ X,X≠0∧X≤hU m N D S E^n∧∀ b∈aZ q m lead y n,Bd X (T*cR m N D S L^n) b:=by
 have hF1:1≤N→1≤fM m N:=fun h=>Nat.pow_pos (by omega);intro n
 induction n with
 | zero=>exact fun _=>⟨1,by omega,by simp,fun b hb=>by cases hb⟩
 | succ n ih=>
   intro hn;obtain ⟨X,hX0,hXQ,hb⟩:=ih (by omega);have hF:=Ko (m:=m) (N:=N) (n:=n) (by omega);have hF1:=hF1 (by omega);have hD:=Nat.pos_of_ne_zero C.d0;have hE:=Nat.pos_of_ne_zero C.e0;have hR1:1≤cR m N D S L:=Nat.mul_pos (Nat.mul_pos (by omega) (Nat.mul_pos C.l1 (Nat.mul_pos C.s1 hF1))) hD;have hTR:T*cR m N D S L^n≤T*cR m N D S L^(n+1):=Nat.mul_le_mul_left _ (Nat.pow_le_pow_right hR1 (by omega));have hT:T≤T*cR m N D S L^(n+1):=Nat.le_mul_of_pos_right _ (Nat.pow_pos hR1)
   have key:∃ u,u≠0∧u≤hU m N D S E∧Bd (X*u) (T*cR m N D S L^(n+1)) (mJ q m lead y n (aZ q m lead y n)):=by
    unfold mJ;split
    ·rename_i hnm;have hf0:((dC n n:Int):Rat)≠0:=JP (oV (by omega));have hfz:(dC n n).natAbs≤fM m N:=hF n (by omega) n (by omega)
     have hy:Bd E T (y.getD n 0):=by
      rw [List.getD_eq_getElem?_getD];cases h:y[n]? with
      | none=>exact Bd.zero
      | some b=>exact C.hy b (List.mem_of_getElem? h)
     have h:=hy.div C.e0 (E:=1) (by omega) (Bd.int hfz) hf0;rw [Nat.mul_one,Rat.num_intCast] at h;refine ⟨E*(dC n n).natAbs,Nat.mul_ne_zero C.e0 (fun e=>hf0 (by rw [Int.natAbs_eq_zero.1 e];rfl)),?_,h.mono (Nat.dvd_mul_left _ _) hT⟩;exact Nat.le_trans (Nat.mul_le_mul_left _ hfz) (Nat.le_add_right _ _)
    ·rename_i hnm;have hmn:m≤n:=by omega
     have hf0:((dC n m:Int):Rat)≠0:=JP (oV (by omega));have hfz:(dC n m).natAbs≤fM m N:=hF m (by omega) n (by omega);have hr:=C.hl.mul C.d0 (E:=1) (by omega) (Bd.int hfz);rw [Nat.mul_one] at hr
     have hr0:lead*((dC n m:Int):Rat)≠0:=fun e=>by
      rcases Rat.mul_eq_zero.1 e with e | e
      ·exact C.l0 e
      ·exact hf0 e
     have ho:=wH C.d0 hX0 C.hq hb hF hmn q.length (by rw [C.ql];omega);have h:=ho.div (Nat.mul_ne_zero C.d0 hX0) C.d0 hr hr0;rw [show D*X*(lead*((dC n m:Int):Rat)).num.natAbs=X*(D*(lead*((dC n m:Int):Rat)).num.natAbs) by rw [Nat.mul_comm D X,Nat.mul_assoc]] at h;refine ⟨_,Nat.mul_ne_zero C.d0 (fun e=>hr0 (Rat.num_eq_zero.1 (Int.natAbs_eq_zero.1 e))),?_,h.le ?_⟩
     ·exact Nat.le_trans (Nat.mul_le_mul_left _ (hr.Rg C.d0)) (Nat.le_add_left _ _)
     ·rw [C.ql,Nat.pow_succ];unfold cR;generalize ((m+1)*(L*(S*fM m N))*D)^n=R;refine Nat.le_of_eq ?_
      ac_rfl
   obtain ⟨u,hu0,huQ,hu⟩:=key;refine ⟨X*u,Nat.mul_ne_zero hX0 hu0,?_,fun b hbm=>?_⟩
   ·rw [Nat.pow_succ];exact Nat.mul_le_mul hXQ huQ
   ·rw [aZ] at hbm;rcases List.mem_append.1 hbm with h | h
    ·exact (hb b h).mono (Nat.dvd_mul_right _ _) hTR
    ·rw [List.mem_singleton.1 h];exact hu
def tL (m N D S E T L:Nat):Nat:=D*hU m N D S E^N*(T*cR m N D S L^(N+1))
theorem HG {q:List (List Rat)} {m:Nat} {lead:Rat} {y:List Rat} {D S E T L N B:Nat} (C:RN q m lead y D S E T L) (hmN:m≤N) (h1N:1≤N) (hB:tL m N D S E T L<2^B):sB B q m lead y N:=by
 have hF1:1≤fM m N:=Nat.pow_pos (by omega);have hD:=Nat.pos_of_ne_zero C.d0;have hE:=Nat.pos_of_ne_zero C.e0;have hSF:1≤S*fM m N:=Nat.mul_pos C.s1 hF1;have hR1:1≤cR m N D S L:=Nat.mul_pos (Nat.mul_pos (by omega) (Nat.mul_pos C.l1 hSF)) hD;have hQ1:1≤hU m N D S E:=Nat.le_trans (Nat.mul_pos hE hF1) (Nat.le_add_right _ _);have hQN:1≤hU m N D S E^N:=Nat.pow_pos hQ1;have hRN:1≤cR m N D S L^N:=Nat.pow_pos hR1
 have hRS:cR m N D S L≤cR m N D S L^(N+1):=by
  rw [Nat.pow_succ];exact Nat.le_mul_of_pos_left _ hRN
 have hEQ:E≤hU m N D S E^N:=Nat.le_trans (Nat.le_trans (Nat.le_mul_of_pos_right _ hF1) (Nat.le_add_right _ _)) (Nat.le_trans (Nat.le_of_eq (Nat.pow_one _).symm) (Nat.pow_le_pow_right hQ1 h1N))
 have hSR:S*fM m N≤cR m N D S L:=by
  refine Nat.le_trans ?_ (Nat.le_mul_of_pos_right _ hD);refine Nat.le_trans ?_ (Nat.le_mul_of_pos_left _ (by omega));exact Nat.le_mul_of_pos_left _ C.l1
 have hS:S≤cR m N D S L:=Nat.le_trans (Nat.le_mul_of_pos_right _ hF1) hSR;have hF:fM m N≤cR m N D S L:=Nat.le_trans (Nat.le_mul_of_pos_left _ C.s1) hSR
 have big:∀ {X Y:Nat} {x:Rat},X≠0→Bd X Y x→X≤D*hU m N D S E^N→Y≤T*cR m N D S L^(N+1)→Fit B x:=fun {X Y x} h0 h hX hY=>by
  have hV:Y*X≤tL m N D S E T L:=by
   unfold tL;rw [Nat.mul_comm (D*hU m N D S E^N)];exact Nat.mul_le_mul hY hX
  refine h.fit h0 (Nat.lt_of_le_of_lt ?_ hB) (Nat.lt_of_le_of_lt hV hB);unfold tL;exact Nat.le_trans hX (Nat.le_mul_of_pos_right _ (Nat.mul_pos C.t1 (Nat.pow_pos hR1)))
 have hTR:cR m N D S L^(N+1)≤T*cR m N D S L^(N+1):=Nat.le_mul_of_pos_left _ C.t1;have hDQ:D≤D*hU m N D S E^N:=Nat.le_mul_of_pos_right _ hQN;have hint:∀ {z:Int},z.natAbs≤fM m N→Fit B (z:Rat):=fun {z} hz=>big (X:=1) (by omega) (Bd.int hz) (Nat.mul_pos hD hQN) (Nat.le_trans hF (Nat.le_trans hRS hTR));have hco:=JA C hmN
 refine ⟨big C.d0 C.hl hDQ (Nat.le_trans hS (Nat.le_trans hRS hTR)),fun x hx=>big C.e0 (C.hy x hx) (Nat.le_trans hEQ (Nat.le_mul_of_pos_left _ hD)) (Nat.le_mul_of_pos_right _ (Nat.pow_pos hR1)),fun p hp x hx=>big C.d0 ((C.hq p hp).2 x hx) hDQ (Nat.le_trans hS (Nat.le_trans hRS hTR)),
  fun n i hn hi z hz j hj=>hint (Nat.le_trans (oG (N:=N+m+m) j (by omega)) (Nat.pow_le_pow_right (by omega) (by omega))),fun n hn j hj=>hint (Nat.le_trans (oG (N:=N+m+m) j (by omega)) (Nat.pow_le_pow_right (by omega) (by omega))),fun n hn=>?_,fun n i k hn hmn hi hk=>?_⟩
 ·obtain ⟨X,h0,hX,hb⟩:=hco (n+1) (by omega);refine big h0 (hb _ (by rw [aZ];simp)) ?_ ?_
  ·exact Nat.le_trans (Nat.le_trans hX (Nat.pow_le_pow_right hQ1 (by omega))) (Nat.le_mul_of_pos_left _ hD)
  ·exact Nat.mul_le_mul_left _ (Nat.pow_le_pow_right hR1 (by omega))
 ·obtain ⟨X,h0,hX,hb⟩:=hco n (by omega);have hFz:=Ko (m:=m) (N:=N) (n:=n) hn;have hil:i≤m:=by have:=C.ql;omega
  have ho:=wH C.d0 h0 C.hq hb hFz hmn i (by omega)
  have hp:(q.getD i []).length≤L∧∀ b∈q.getD i [],Bd D S b:=by
   rw [List.getD_eq_getElem?_getD];cases h:q[i]? with
   | none=>exact ⟨Nat.zero_le _,fun b hb=>by cases hb⟩
   | some p=>exact C.hq p (List.mem_of_getElem? h)
  have hin:=vP C.d0 h0 hp.2 hb (hFz i hil) hil ho k (by omega) hmn;refine big (Nat.mul_ne_zero C.d0 h0) hin (Nat.mul_le_mul_left _ (Nat.le_trans hX (Nat.pow_le_pow_right hQ1 (by omega)))) ?_;have hkL:k≤L:=by have:=hp.1;omega
  have h1:i*(L*(S*fM m N*(T*cR m N D S L^n)))+k*(S*fM m N*(T*cR m N D S L^n))≤(m+1)*(L*(S*fM m N*(T*cR m N D S L^n))):=by
   rw [Nat.add_mul m 1,Nat.one_mul];exact Nat.add_le_add (Nat.mul_le_mul_right _ hil) (Nat.mul_le_mul_right _ hkL)
  refine Nat.le_trans h1 ?_;have h2:(m+1)*(L*(S*fM m N*(T*cR m N D S L^n)))=T*(cR m N D S L^n*((m+1)*(L*(S*fM m N)))):=by ac_rfl
  rw [h2];refine Nat.mul_le_mul_left _ ?_;refine Nat.le_trans (Nat.mul_le_mul_left _ (Nat.le_mul_of_pos_right _ hD)) ?_;show cR m N D S L^n*cR m N D S L≤_;rw [←Nat.pow_succ];exact Nat.pow_le_pow_right hR1 (by omega)
end Ord
namespace Ord
end Ord
namespace Go.Sy
open Go Go.Proofs Tryz Ord
def nU (p:List RQ) (c:Rat):List RQ:=p.map fun a=>.of (a.q*c)
theorem pL (p:List RQ) (c:Rat):(nU p c).length=p.length:=List.length_map _
def atR (p:List RQ) (i:Nat):Rat:=((p.map RQ.q).getD i 0)
theorem DL {p:List RQ} {i:Nat} {x:RQ} (h:p[i]? = some x):atR p i=x.q:=by
 rw [atR,List.getD_eq_getElem?_getD,List.getElem?_map,h];rfl
def Mw (a b:List RQ) (i:Nat):List RQ:=(List.range i).map fun k=>.of (atR a k+atR b k)
theorem DA (a b:List RQ) (i:Nat):(Mw a b i).length=i:=by simp [Mw]
def FG (a b:List RQ):List RQ:=iW (Mw a b (max a.length b.length))
theorem qM (p:List RQ):(iW p).length≤p.length:=by rw [BV];exact fE p
theorem GS (a b:List RQ):(FG a b).length≤max a.length b.length:=Nat.le_trans (qM _) (by rw [DA];exact Nat.le_refl _)
def mulR (a b:List RQ):Nat→List RQ
 | 0=>[]
 | i+1=>FG (mulR a b i) (List.replicate i .nil++iW (nU a (atR b i)))
theorem Gl (a b:List RQ):∀ i,(mulR a b i).length≤a.length+i
 | 0=>Nat.zero_le _
 | i+1=>by
   rw [mulR];refine Nat.le_trans (GS _ _) ?_;have h1:=Gl a b i;have h2:=qM (nU a (atR b i));rw [pL] at h2;rw [List.length_append,List.length_replicate];omega
def qB (q:List RQ):Nat→List RQ
 | 0=>iW [.of ((1:Int):Rat)]
 | i+1=>mulR (qB q i) q q.length
theorem GF (q:List RQ):∀ i,(qB q i).length≤1+i*q.length
 | 0=>by rw [qB,Nat.zero_mul];exact qM _
 | i+1=>by
   have h1:=Gl (qB q i) q q.length;have h2:=GF q i;rw [qB,Nat.add_mul];omega
def mM (p q:List RQ):Nat→List RQ
 | 0=>[]
 | i+1=>FG (mM p q i) (iW (nU (qB q i) (atR p i)))
theorem Ef (p q:List RQ):∀ i,(mM p q i).length≤1+i*q.length
 | 0=>Nat.zero_le _
 | i+1=>by
   have h1:=Ef p q i;have h2:=GF q i;have h3:=qM (nU (qB q i) (atR p i));rw [pL] at h3;rw [mM,Nat.add_mul];refine Nat.le_trans (GS _ _) ?_;omega
structure VJ (F:Nat) (p q:List RQ):Prop where
 fp:∀ x∈p,Fit F x.q
 fq:∀ x∈q,Fit F x.q
 fw:∀ i,i≤p.length→∀ x∈qB q i,Fit F x.q
 fm:∀ i,i≤p.length→∀ j,j≤q.length→∀ x∈mulR (qB q i) q j,Fit F x.q
 fc:∀ i,i≤p.length→∀ x∈mM p q i,Fit F x.q
open Go Go.Proofs Tryz Ord
def Vn (e:List (List RQ)) (c:RQ):List (List RQ):=e.map fun p=>mM p [c, .of ((1:Int):Rat)] p.length
open Go Go.Proofs Tryz Ord
theorem JN (a b:List RQ):(FG a b).map RQ.q=xK (a.map RQ.q) (b.map RQ.q):=by
 rw [FG,mG,xK,List.length_map,List.length_map,Mw,List.map_map];rfl
theorem GK (x:Rat) (a b:List RQ):ev ((FG a b).map RQ.q) x=ev (a.map RQ.q) x+ev (b.map RQ.q) x:=by rw [JN,Ge]
theorem Bp (x:Rat) (p:List RQ) (c:Rat):ev ((iW (nU p c)).map RQ.q) x=ev (p.map RQ.q) x*c:=by
 rw [mG,pI,nU,List.map_map,show (RQ.q ∘ fun a:RQ=>RQ.of (a.q*c))=(fun a=>a*c) ∘ RQ.q from rfl,←List.map_map,Ga]
theorem Gi (x:Rat) (a b:List RQ):∀ i,i≤b.length→ev ((mulR a b i).map RQ.q) x=ev (a.map RQ.q) x*ev ((b.map RQ.q).take i) x
 | 0,_=>by rw [mulR,List.take_zero];show (0:Rat)=_;rw [dE];grind
 | i+1,hi=>by
   obtain ⟨z,hz⟩:∃ z,b[i]? = some z:=⟨_,List.getElem?_eq_getElem (by omega)⟩
   have hz':(b.map RQ.q)[i]? = some z.q:=by rw [List.getElem?_map,hz];rfl
   rw [mulR,GK,Gi x a b i (by omega),List.map_append,AO,List.map_replicate,show RQ.q .nil=0 from rfl,EU,List.length_replicate,Bp,DL hz,iC hz']
   grind
theorem Gn (x:Rat) (q:List RQ):∀ i,ev ((qB q i).map RQ.q) x=ev (q.map RQ.q) x^i
 | 0=>by
   rw [qB,mG,pI,Rat.pow_zero];show ev [((1:Int):Rat)] x=1;rw [aY,dE];grind
 | i+1=>by
   rw [qB,Gi x _ q q.length (Nat.le_refl _),Gn x q i,Rat.pow_succ,List.take_of_length_le (by rw [List.length_map];exact Nat.le_refl _)]
theorem Eg (x:Rat) (p q:List RQ):∀ i,i≤p.length→ev ((mM p q i).map RQ.q) x=ev ((p.map RQ.q).take i) (ev (q.map RQ.q) x)
 | 0,_=>by rw [mM,List.take_zero];rfl
 | i+1,hi=>by
   obtain ⟨z,hz⟩:∃ z,p[i]? = some z:=⟨_,List.getElem?_eq_getElem (by omega)⟩
   have hz':(p.map RQ.q)[i]? = some z.q:=by rw [List.getElem?_map,hz];rfl
   rw [mM,GK,Eg x p q i (by omega),Bp,Gn,DL hz,iC hz']
   grind
theorem Ep (p q:List RQ):∀ i,nJ ((mM p q i).map RQ.q)
 | 0=>fun a h=>by cases h
 | i+1=>by rw [mM,JN];exact yH _ _
theorem MO (p:List RQ) (c:RQ):(mM p [c, .of ((1:Int):Rat)] p.length).map RQ.q=cP (p.map RQ.q) c.q:=by
 refine Lk (Ep _ _ _) (iO _ _) fun x=>?_;rw [Eg x p _ p.length (Nat.le_refl _),List.take_of_length_le (by rw [List.length_map];exact Nat.le_refl _),pD]
 congr 1
 show ev [c.q,((1:Int):Rat)] x=_;rw [aY,aY,dE];grind
theorem Ty (e:List (List RQ)) (c:RQ):FW (Vn e c)=(FW e).map (cP · c.q):=by
 rw [FW,Vn,FW,List.map_map,List.map_map];exact List.map_congr_left fun p _=>MO p c
end Go.Sy
