/- Part. -/
import Derived.Test.YtdmcadckdnnglaaGreatDoorQf
set_option linter.all false
namespace Ord
theorem Bd.inv {E T:Nat} {r:Rat} (h1:E≠0) (h:Bd E T r) (hr:r≠0):Bd r.num.natAbs E r⁻¹:=by
 have hn:r.num≠0:=fun e=>hr (Rat.num_eq_zero.1 e);have hd:=Nat.le_of_dvd (by omega) h.1;unfold Bd;rw [Rat.num_inv,Rat.den_inv,if_neg hn,Int.natAbs_mul,Int.natAbs_sign_of_ne_zero hn,Int.natAbs_natCast,Nat.one_mul];exact ⟨Nat.dvd_refl _,Nat.le_trans hd (Nat.le_mul_of_pos_right _ (by omega))⟩
theorem Bd.div {D E S T:Nat} {a r:Rat} (h0:D≠0) (h1:E≠0) (ha:Bd D S a) (h:Bd E T r) (hr:r≠0):Bd (D*r.num.natAbs) (S*E) (a/r):=by
 rw [Rat.div_def];exact ha.mul h0 (fun e=>hr (Rat.num_eq_zero.1 (by omega))) (h.inv h1 hr)
theorem Bd.aJ6 {D S:Nat} {q:Rat} (h0:D≠0) (h:Bd D S q):q.num.natAbs≤S*D:=Nat.le_trans h.2 (Nat.mul_le_mul_left _ (Nat.le_of_dvd (by omega) h.1))
theorem Jp {z:Int} (h:z≠0):(z:Rat)≠0:=fun e=>h (by have:=congrArg Rat.num e;simpa using this)
section
variable {q:List (List Rat)} {a:List Rat} {m n D S X A F L:Nat}
theorem EK {p:List Rat} {i:Nat} {x:Rat} {Y:Nat} (h0:D≠0) (h1:X≠0) (hp:∀ b∈p,Bd D S b) (ha:∀ b∈a,Bd X A b) (hF:∀ z:Int,z.natAbs≤n+m→(bL z i).natAbs≤F) (hi:i≤m) (hx:Bd (D*X) Y x) :
  ∀ k,k≤n-m+1→m≤n→Bd (D*X) (Y+k*(S*F*A)) (inner p a m n i x k)
 | 0,_,_=>by simpa [inner] using hx
 | k+1,hk,hmn=>by
   have ih:=EK h0 h1 hp ha hF hi hx k (by omega) hmn;have hm:Y+k*(S*F*A)≤Y+(k+1)*(S*F*A):=by rw [Nat.add_mul];omega
   rw [inner];split
   ·have hpk:Bd D S (p.getD k 0):=by
     rw [List.getD_eq_getElem?_getD];cases h:p[k]? with
     | none=>exact Bd.zero
     | some b=>exact hp b (List.mem_of_getElem? h)
    have hak:Bd X A (a.getD (n-(m+k-i)) 0):=by
     rw [List.getD_eq_getElem?_getD];cases h:a[n-(m+k-i)]? with
     | none=>exact Bd.zero
     | some b=>exact ha b (List.mem_of_getElem? h)
    have hf:Bd 1 F ((bL ((n:Int)-((m:Int)+k-i)) i:Int):Rat):=Bd.int (hF _ (by omega));have h2:=(hpk.mul h0 (by omega) hf).mul (by omega) h1 hak;rw [Nat.mul_one] at h2;have h3:=ih.sub (Nat.mul_ne_zero h0 h1) h2;rw [Nat.add_mul,Nat.one_mul,←Nat.add_assoc];exact h3
   ·exact ih.le hm
theorem Ey (h0:D≠0) (h1:X≠0) (hq:∀ p∈q,p.length≤L∧∀ b∈p,Bd D S b) (ha:∀ b∈a,Bd X A b) (hF:∀ i,i≤m→∀ z:Int,z.natAbs≤n+m→(bL z i).natAbs≤F) (hmn:m≤n) :
  ∀ i,i≤m+1→Bd (D*X) (i*(L*(S*F*A))) (outer q a m n i)
 | 0,_=>by simpa [outer] using Bd.zero
 | i+1,hi=>by
   have ih:=Ey h0 h1 hq ha hF hmn i (by omega)
   have hp:(q.getD i []).length≤L∧∀ b∈q.getD i [],Bd D S b:=by
    rw [List.getD_eq_getElem?_getD];cases h:q[i]? with
    | none=>exact ⟨Nat.zero_le _,fun b hb=>by cases hb⟩
    | some p=>exact hq p (List.mem_of_getElem? h)
   rw [outer];refine (EK h0 h1 hp.2 ha (hF i (by omega)) (by omega) ih _ (Nat.min_le_right _ _) hmn).le ?_;rw [Nat.add_mul i 1,Nat.one_mul];exact Nat.add_le_add_left (Nat.mul_le_mul_right _ (Nat.le_trans (Nat.min_le_left _ _) hp.1)) _
end
structure aQ4 (q:List (List Rat)) (m:Nat) (lead:Rat) (y:List Rat) (D S E T L:Nat):Prop where
 d0:D≠0
 e0:E≠0
 s1:1≤S
 t1:1≤T
 l1:1≤L
 hq:∀ p∈q,p.length≤L∧∀ b∈p,Bd D S b
 hl:Bd D S lead
 l0:lead≠0
 hy:∀ b∈y,Bd E T b
 ql:q.length=m+1
def iR (m N:Nat):Nat:=(N+m+m)^m
def mI (m N D S E:Nat):Nat:=E*iR m N+D*(S*iR m N*D)
def eK (m N D S L:Nat):Nat:=(m+1)*(L*(S*iR m N))*D
theorem Mk {m N n:Nat} (hn:n<N):∀ i,i≤m→∀ z:Int,z.natAbs≤n+m→(bL z i).natAbs≤iR m N:=fun i hi z hz=>
 Nat.le_trans (nS (N:=N+m+m) i (by omega)) (Nat.pow_le_pow_right (by omega) hi)
theorem Ko {q:List (List Rat)} {m:Nat} {lead:Rat} {y:List Rat} {D S E T L N:Nat} (C:aQ4 q m lead y D S E T L) (hmN:m≤N) :
  ∀ n,n≤N→∃ X,X≠0∧X≤mI m N D S E^n∧∀ b∈aX q m lead y n,Bd X (T*eK m N D S L^n) b:=by
 have hF1:1≤N→1≤iR m N:=fun h=>Nat.pow_pos (by omega);intro n
 induction n with
 | zero=>exact fun _=>⟨1,by omega,by simp,fun b hb=>by cases hb⟩
 | succ n ih=>
   intro hn;obtain ⟨X,hX0,hXQ,hb⟩:=ih (by omega);have hF:=Mk (m:=m) (N:=N) (n:=n) (by omega);have hF1:=hF1 (by omega);have hD:=Nat.pos_of_ne_zero C.d0;have hE:=Nat.pos_of_ne_zero C.e0;have hR1:1≤eK m N D S L:=Nat.mul_pos (Nat.mul_pos (by omega) (Nat.mul_pos C.l1 (Nat.mul_pos C.s1 hF1))) hD;have hTR:T*eK m N D S L^n≤T*eK m N D S L^(n+1):=Nat.mul_le_mul_left _ (Nat.pow_le_pow_right hR1 (by omega));have hT:T≤T*eK m N D S L^(n+1):=Nat.le_mul_of_pos_right _ (Nat.pow_pos hR1)
   have key:∃ u,u≠0∧u≤mI m N D S E∧Bd (X*u) (T*eK m N D S L^(n+1)) (iP q m lead y n (aX q m lead y n)):=by
    unfold iP;split
    ·rename_i hnm;have hf0:((bL n n:Int):Rat)≠0:=Jp (nN (by omega));have hfz:(bL n n).natAbs≤iR m N:=hF n (by omega) n (by omega)
     have hy:Bd E T (y.getD n 0):=by
      rw [List.getD_eq_getElem?_getD];cases h:y[n]? with
      | none=>exact Bd.zero
      | some b=>exact C.hy b (List.mem_of_getElem? h)
     have h:=hy.div C.e0 (E:=1) (by omega) (Bd.int hfz) hf0;rw [Nat.mul_one,Rat.num_intCast] at h;refine ⟨E*(bL n n).natAbs,Nat.mul_ne_zero C.e0 (fun e=>hf0 (by rw [Int.natAbs_eq_zero.1 e];rfl)),?_,h.mono (Nat.dvd_mul_left _ _) hT⟩;exact Nat.le_trans (Nat.mul_le_mul_left _ hfz) (Nat.le_add_right _ _)
    ·rename_i hnm;have hmn:m≤n:=by omega
     have hf0:((bL n m:Int):Rat)≠0:=Jp (nN (by omega));have hfz:(bL n m).natAbs≤iR m N:=hF m (by omega) n (by omega);have hr:=C.hl.mul C.d0 (E:=1) (by omega) (Bd.int hfz);rw [Nat.mul_one] at hr
     have hr0:lead*((bL n m:Int):Rat)≠0:=fun e=>by
      rcases Rat.mul_eq_zero.1 e with e | e
      ·exact C.l0 e
      ·exact hf0 e
     have ho:=Ey C.d0 hX0 C.hq hb hF hmn q.length (by rw [C.ql];omega);have h:=ho.div (Nat.mul_ne_zero C.d0 hX0) C.d0 hr hr0;rw [show D*X*(lead*((bL n m:Int):Rat)).num.natAbs=X*(D*(lead*((bL n m:Int):Rat)).num.natAbs) by rw [Nat.mul_comm D X,Nat.mul_assoc]] at h;refine ⟨_,Nat.mul_ne_zero C.d0 (fun e=>hr0 (Rat.num_eq_zero.1 (Int.natAbs_eq_zero.1 e))),?_,h.le ?_⟩
     ·exact Nat.le_trans (Nat.mul_le_mul_left _ (hr.aJ6 C.d0)) (Nat.le_add_left _ _)
     ·rw [C.ql,Nat.pow_succ];unfold eK;generalize ((m+1)*(L*(S*iR m N))*D)^n=R;refine Nat.le_of_eq ?_
      ac_rfl
   obtain ⟨u,hu0,huQ,hu⟩:=key;refine ⟨X*u,Nat.mul_ne_zero hX0 hu0,?_,fun b hbm=>?_⟩
   ·rw [Nat.pow_succ];exact Nat.mul_le_mul hXQ huQ
   ·rw [aX] at hbm;rcases List.mem_append.1 hbm with h | h
    ·exact (hb b h).mono (Nat.dvd_mul_right _ _) hTR
    ·rw [List.mem_singleton.1 h];exact hu
def BC (m N D S E T L:Nat):Nat:=D*mI m N D S E^N*(T*eK m N D S L^(N+1))
theorem Qz {q:List (List Rat)} {m:Nat} {lead:Rat} {y:List Rat} {D S E T L N B:Nat} (C:aQ4 q m lead y D S E T L) (hB:BC m N D S E T L<2^B) (hmN:m≤N:=by omega) (h1N:1≤N:=by omega):iG B q m lead y N:=by
 have hF1:1≤iR m N:=Nat.pow_pos (by omega);have hD:=Nat.pos_of_ne_zero C.d0;have hE:=Nat.pos_of_ne_zero C.e0;have hSF:1≤S*iR m N:=Nat.mul_pos C.s1 hF1;have hR1:1≤eK m N D S L:=Nat.mul_pos (Nat.mul_pos (by omega) (Nat.mul_pos C.l1 hSF)) hD;have hQ1:1≤mI m N D S E:=Nat.le_trans (Nat.mul_pos hE hF1) (Nat.le_add_right _ _);have hQN:1≤mI m N D S E^N:=Nat.pow_pos hQ1;have hRN:1≤eK m N D S L^N:=Nat.pow_pos hR1
 have hRS:eK m N D S L≤eK m N D S L^(N+1):=by
  rw [Nat.pow_succ];exact Nat.le_mul_of_pos_left _ hRN
 have hEQ:E≤mI m N D S E^N:=Nat.le_trans (Nat.le_trans (Nat.le_mul_of_pos_right _ hF1) (Nat.le_add_right _ _)) (Nat.le_trans (Nat.le_of_eq (Nat.pow_one _).symm) (Nat.pow_le_pow_right hQ1 h1N))
 have hSR:S*iR m N≤eK m N D S L:=by
  refine Nat.le_trans ?_ (Nat.le_mul_of_pos_right _ hD);refine Nat.le_trans ?_ (Nat.le_mul_of_pos_left _ (by omega));exact Nat.le_mul_of_pos_left _ C.l1
 have hS:S≤eK m N D S L:=Nat.le_trans (Nat.le_mul_of_pos_right _ hF1) hSR;have hF:iR m N≤eK m N D S L:=Nat.le_trans (Nat.le_mul_of_pos_left _ C.s1) hSR
 have big:∀ {X Y:Nat} {x:Rat},X≠0→Bd X Y x→X≤D*mI m N D S E^N→Y≤T*eK m N D S L^(N+1)→Fit B x:=fun {X Y x} h0 h hX hY=>by
  have hV:Y*X≤BC m N D S E T L:=by
   unfold BC;rw [Nat.mul_comm (D*mI m N D S E^N)];exact Nat.mul_le_mul hY hX
  refine h.fit h0 (Nat.lt_of_le_of_lt ?_ hB) (Nat.lt_of_le_of_lt hV hB);unfold BC;exact Nat.le_trans hX (Nat.le_mul_of_pos_right _ (Nat.mul_pos C.t1 (Nat.pow_pos hR1)))
 have hTR:eK m N D S L^(N+1)≤T*eK m N D S L^(N+1):=Nat.le_mul_of_pos_left _ C.t1;have hDQ:D≤D*mI m N D S E^N:=Nat.le_mul_of_pos_right _ hQN;have hint:∀ {z:Int},z.natAbs≤iR m N→Fit B (z:Rat):=fun {z} hz=>big (X:=1) (by omega) (Bd.int hz) (Nat.mul_pos hD hQN) (Nat.le_trans hF (Nat.le_trans hRS hTR));have hco:=Ko C hmN
 refine ⟨big C.d0 C.hl hDQ (Nat.le_trans hS (Nat.le_trans hRS hTR)),fun x hx=>big C.e0 (C.hy x hx) (Nat.le_trans hEQ (Nat.le_mul_of_pos_left _ hD)) (Nat.le_mul_of_pos_right _ (Nat.pow_pos hR1)),fun p hp x hx=>big C.d0 ((C.hq p hp).2 x hx) hDQ (Nat.le_trans hS (Nat.le_trans hRS hTR)),
  fun n i hn hi z hz j hj=>hint (Nat.le_trans (nS (N:=N+m+m) j (by omega)) (Nat.pow_le_pow_right (by omega) (by omega))),fun n hn j hj=>hint (Nat.le_trans (nS (N:=N+m+m) j (by omega)) (Nat.pow_le_pow_right (by omega) (by omega))),fun n hn=>?_,fun n i k hn hmn hi hk=>?_⟩
 ·obtain ⟨X,h0,hX,hb⟩:=hco (n+1) (by omega);refine big h0 (hb _ (by rw [aX];simp)) ?_ ?_
  ·exact Nat.le_trans (Nat.le_trans hX (Nat.pow_le_pow_right hQ1 (by omega))) (Nat.le_mul_of_pos_left _ hD)
  ·exact Nat.mul_le_mul_left _ (Nat.pow_le_pow_right hR1 (by omega))
 ·obtain ⟨X,h0,hX,hb⟩:=hco n (by omega);have hFz:=Mk (m:=m) (N:=N) (n:=n) hn;have hil:i≤m:=by have:=C.ql;omega
  have ho:=Ey C.d0 h0 C.hq hb hFz hmn i (by omega)
  have hp:(q.getD i []).length≤L∧∀ b∈q.getD i [],Bd D S b:=by
   rw [List.getD_eq_getElem?_getD];cases h:q[i]? with
   | none=>exact ⟨Nat.zero_le _,fun b hb=>by cases hb⟩
   | some p=>exact C.hq p (List.mem_of_getElem? h)
  have hin:=EK C.d0 h0 hp.2 hb (hFz i hil) hil ho k (by omega) hmn;refine big (Nat.mul_ne_zero C.d0 h0) hin (Nat.mul_le_mul_left _ (Nat.le_trans hX (Nat.pow_le_pow_right hQ1 (by omega)))) ?_;have hkL:k≤L:=by have:=hp.1;omega
  have h1:i*(L*(S*iR m N*(T*eK m N D S L^n)))+k*(S*iR m N*(T*eK m N D S L^n))≤(m+1)*(L*(S*iR m N*(T*eK m N D S L^n))):=by
   rw [Nat.add_mul m 1,Nat.one_mul];exact Nat.add_le_add (Nat.mul_le_mul_right _ hil) (Nat.mul_le_mul_right _ hkL)
  refine Nat.le_trans h1 ?_;have h2:(m+1)*(L*(S*iR m N*(T*eK m N D S L^n)))=T*(eK m N D S L^n*((m+1)*(L*(S*iR m N)))):=by ac_rfl
  rw [h2];refine Nat.mul_le_mul_left _ ?_;refine Nat.le_trans (Nat.mul_le_mul_left _ (Nat.le_mul_of_pos_right _ hD)) ?_;show eK m N D S L^n*eK m N D S L≤_;rw [←Nat.pow_succ];exact Nat.pow_le_pow_right hR1 (by omega)
end Ord
namespace Ord
def sm (f:Nat→Rat):Nat→Rat
 | 0=>0
 | n+1=>sm f n+f n
def cv (p q:List Rat) (s:Nat):Rat:=sm (fun j=>p.getD j 0*q.getD (s-j) 0) (s+1)
end Ord
namespace Go.Sy
open Go Go.Proofs Tryz Ord
def VO:Tr:=.ret [(W 2 0)]
def aG8:Tr:=.need (.lit 4 [[(.u 0 0),(.u 0 1),(.u 0 2),(.u 0 3)]]) (.buildSlice 167 1 #[(0,(tT 3))]) 167 false (aJ 144 [(.one (.c (.sr 4 1)))] [none] [4] [167] 167 true VO)
theorem IK:aL prog f184 (fun _=>none) [.v (some 4)]=aG8:=by kernel_rfl
def aZ2:Tr:=eN 0 0 2 0 167 14 15 (dR 6 0 (some 4) 49 16 (aJ 104 [(G4 7),(G4 1)] [(some 4)] [17,18] [49,49] 49 true (.need (.lit 4 [[(.u 8 0),(.u 8 1),(.u 8 2),(.u 8 3)]]) (.buildSlice 167 1 #[(0,(tT 19))]) 167 false (.need (.app 4 64 (some 3) none (some 9)) (.call ⟨.builtin .append,#[(tT 13),(tT 20)],#[167,167]⟩) 167 false (aW .add 3 11 1 2 0 3 (.back 0 [lV 11 0, .row 10]))))))
def ax5:Tr:=.loop 0 [lK 0, .nilrow] (cU 0 0 8 167 (bO .lss 3 7 9 2 0 4 0 4 (.split (.u 5 0) aZ2 (aJ 144 [(.one (.c (.sr 4 3)))] [none] [22] [167] 167 true (.ret [(W 6 0)])))))
theorem VM:aL prog f186 (fun _=>none) [.v none, .v (some 4)]=ax5:=by kernel_rfl
def am9:Tr:=eN 1 0 2 0 167 36 37 (dR 14 0 (some 4) 49 38 (aJ 48 [(G4 11),(G4 15)] [(some 4)] [35,39] [49,49] 49 true (.need (.lit 4 [[(.u 16 0),(.u 16 1),(.u 16 2),(.u 16 3)]]) (.buildSlice 167 1 #[(0,(tT 42))]) 167 false (.need (.app 4 64 (some 3) none (some 17)) (.call ⟨.builtin .append,#[(tT 41),(tT 43)],#[167,167]⟩) 167 false (aW .add 3 18 1 2 0 3 (.back 0 [lV 19 0, .row 18]))))))
def Pe:Tr:=.need (.app 4 64 (some 3) none (some 14)) (.call ⟨.builtin .append,#[(tT 41),(tT 43)],#[167,167]⟩) 167 false (aW .add 3 18 1 2 0 3 (.back 0 [lV 16 0, .row 15]))
def az1:Tr:=eN 0 0 2 0 167 26 27 (dR 9 0 (some 4) 49 28 (aJ 48 [(G4 6),(G4 10)] [(some 4)] [25,29] [49,49] 49 true (cU 1 0 32 167 (bO .lss 3 31 33 2 0 12 0 4 (.split (.u 13 0) am9 (.need (.lit 4 [[(.u 11 0),(.u 11 1),(.u 11 2),(.u 11 3)]]) (.buildSlice 167 1 #[(0,(tT 42))]) 167 false Pe))))))
def OV:Tr:=.back 0 [lV 13 0, .row 12]
def Zw:Tr:=cU 1 0 32 167 (bO .lss 3 31 33 2 0 9 0 4 (.split (.u 10 0) (eN 1 0 2 0 167 36 37 (dR 11 0 (some 4) 49 38 (aJ 48 [(G4 6),(G4 12)] [(some 4)] [35,39] [49,49] 49 true (.need (.lit 4 [[(.u 13 0),(.u 13 1),(.u 13 2),(.u 13 3)]]) (.buildSlice 167 1 #[(0,(tT 42))]) 167 false Pe)))) (.need (.lit 4 [[(.u 6 0),(.u 6 1),(.u 6 2),(.u 6 3)]]) (.buildSlice 167 1 #[(0,(tT 42))]) 167 false (.need (.app 4 64 (some 3) none (some 11)) (.call ⟨.builtin .append,#[(tT 41),(tT 43)],#[167,167]⟩) 167 false (aW .add 3 18 1 2 0 3 OV)))))
def al3:Tr:=eN 1 0 2 0 167 36 37 (dR 16 0 (some 4) 49 38 (aJ 48 [(G4 13),(G4 17)] [(some 4)] [35,39] [49,49] 49 true (.need (.lit 4 [[(.u 18 0),(.u 18 1),(.u 18 2),(.u 18 3)]]) (.buildSlice 167 1 #[(0,(tT 42))]) 167 false (.need (.app 4 64 (some 3) none (some 19)) (.call ⟨.builtin .append,#[(tT 41),(tT 43)],#[167,167]⟩) 167 false (aW .add 3 18 1 2 0 3 (.back 0 [lV 21 0, .row 20]))))))
def OL:Tr:=.need (.app 4 64 (some 3) none (some 16)) (.call ⟨.builtin .append,#[(tT 41),(tT 43)],#[167,167]⟩) 167 false (aW .add 3 18 1 2 0 3 (.back 0 [lV 18 0, .row 17]))
def ai4:Tr:=eN 0 0 2 0 167 26 27 (dR 11 0 (some 4) 49 28 (aJ 48 [(G4 8),(G4 12)] [(some 4)] [25,29] [49,49] 49 true (cU 1 0 32 167 (bO .lss 3 31 33 2 0 14 0 4 (.split (.u 15 0) al3 (.need (.lit 4 [[(.u 13 0),(.u 13 1),(.u 13 2),(.u 13 3)]]) (.buildSlice 167 1 #[(0,(tT 42))]) 167 false OL))))))
def OI:Tr:=.back 0 [lV 15 0, .row 14]
def Yt:Tr:=cU 1 0 32 167 (bO .lss 3 31 33 2 0 11 0 4 (.split (.u 12 0) (eN 1 0 2 0 167 36 37 (dR 13 0 (some 4) 49 38 (aJ 48 [(G4 8),(G4 14)] [(some 4)] [35,39] [49,49] 49 true (.need (.lit 4 [[(.u 15 0),(.u 15 1),(.u 15 2),(.u 15 3)]]) (.buildSlice 167 1 #[(0,(tT 42))]) 167 false OL)))) (.need (.lit 4 [[(.u 8 0),(.u 8 1),(.u 8 2),(.u 8 3)]]) (.buildSlice 167 1 #[(0,(tT 42))]) 167 false (.need (.app 4 64 (some 3) none (some 13)) (.call ⟨.builtin .append,#[(tT 41),(tT 43)],#[167,167]⟩) 167 false (aW .add 3 18 1 2 0 3 OI)))))
def Yh:Tr:=cU 1 0 14 167 (bO .lss 3 13 15 2 0 6 0 4 (.split (.u 7 0) (.need (.call 50 [(WK 0)] [(some 4)]) (.call ⟨.value (.func 50),#[(.const (I3 0))],#[2]⟩) 49 true (cU 0 0 22 167 (bO .lss 3 21 23 2 0 9 0 4 (.split (.u 10 0) ai4 Yt)))) (aJ 144 [(.one (.c (.sr 4 3)))] [none] [45] [167] 167 true (.ret [(W 8 0)]))))
def aF5:Tr:=cU 0 0 9 167 (bO .lss 3 8 10 2 0 4 0 4 (.split (.u 5 0) (.need (.call 50 [(WK 0)] [(some 4)]) (.call ⟨.value (.func 50),#[(.const (I3 0))],#[2]⟩) 49 true (cU 0 0 22 167 (bO .lss 3 21 23 2 0 7 0 4 (.split (.u 8 0) az1 Zw)))) Yh))
def aW2:Tr:=.loop 0 [lK 0, .nilrow] aF5
theorem az3:aL prog f185 (fun _=>none) [.v none, .v none]=aW2:=by kernel_rfl
def aV0:Tr:=eN 1 0 3 0 167 17 18 (dR 7 0 (some 4) 49 19 (aJ 186 [(W 0 0),(G4 8)] [none] [16,20] [167,49] 167 false (.need (.app 4 64 (some 6) (some (.u 9 0)) none) (.call ⟨.builtin .append,#[(tT 15),(tT 21)],#[167,167]⟩) 167 false (aJ 185 [(W 2 0),(.one (.c (.sr 4 10)))] [none] [13,22] [167,167] 167 true (aW .add 3 11 1 3 0 3 (.back 0 [lV 11 0,lV 12 0]))))))
def aP4:Tr:=.loop 0 [lN,lK 0] (cU 1 0 8 167 (bO .lss 3 7 9 3 0 4 0 4 (.split (.u 5 0) (.need (.make [(.int .i64 0),(.slice none 0 0),(.int .i64 0),(.slice none 0 0)] 64 (.u 3 0) (.u 3 0)) (.makeSlice 167 (tT 14) (tT 14)) 167 false aV0) VO)))
theorem aM9:aL prog f187 (fun _=>none) [.v none, .v none]=aP4:=by kernel_rfl
def ax1:Tr:=eN 0 0 6 0 167 18 19 (dR 9 0 (some 4) 49 20 (aJ 186 [(W 5 0),(G4 10)] [none] [17,21] [167,49] 167 true (aJ 185 [(W 4 0),(W 11 0)] [none] [16,22] [167,167] 167 true (aJ 187 [(W 5 0),(W 1 0)] [none] [24,25] [167,167] 167 true (aW .add 3 14 1 6 0 3 (.back 0 [lV 12 0,lV 13 0,lV 14 0]))))))
def ay2:Tr:=.need (.call 50 [(WK 1)] [(some 4)]) (.call ⟨.value (.func 50),#[(.const (I3 1))],#[2]⟩) 49 true (aJ 184 [(G4 2)] [none] [8] [49] 167 true (.loop 0 [lN,lV 3 0,lK 0] (cU 0 0 11 167 (bO .lss 3 10 12 6 0 7 0 4 (.split (.u 8 0) ax1 (.ret [(W 4 0)]))))))
theorem MK:aL prog f106 (fun _=>none) [.v none, .v none]=ay2:=by kernel_rfl
def aM0:Tr:=bO .lss 3 8 9 3 0 1 0 4 (.split (.u 8 0) (bO .sub 3 14 15 0 0 3 0 3 (aJ 50 [(W 9 0)] [(some 4)] [16] [2] 49 true (aJ 104 [(.agg [(U 4 0),(U 5 0),(U 6 0),(U 7 0)]),(G4 10)] [(some 4)] [13,17] [49,49] 49 true (aW .add 3 11 1 3 0 3 (.back 0 [lV 12 0,lV 11 0,lV 11 1,lV 11 2,lV 11 3]))))) (.ret [(.agg [(U 4 0),(U 5 0),(U 6 0),(U 7 0)])]))
def aU2:Tr:=.need (.call 50 [(WK 1)] [(some 4)]) (.call ⟨.value (.func 50),#[(.const (I3 1))],#[2]⟩) 49 true (.loop 0 [lK 0,lV 2 0,lV 2 1,lV 2 2,lV 2 3] aM0)
theorem My:aL prog f103 (fun _=>none) [.v none, .v none]=aU2:=by kernel_rfl
def fK (p:List RQ) (c:Rat):List RQ:=p.map fun a=>.of (a.q*c)
theorem fZ (p:List RQ) (c:Rat):(fK p c).length=p.length:=aP _
theorem Kx (a:RQ):aM prog 184 [(fO a:aE)] (.ret [.one (sR (fB [a]))]):=by
 refine bZ func184 IK ?_;apply bP (us:=rR [a]) rfl;apply aA (vL [a] (by simp)) rfl;exact aK rfl
theorem IL (p:List RQ) (c:RQ) (A B:Nat) (hp:∀ x∈p,Fit A x.q) (hc:Fit B c.q) (hB:A+B≤4294967296:=by omega) (hs:p.length<1099511627776:=by omega):aM prog 186 [(.one (sR p):aE),(fO c:aE)] (.ret [.one (sR (fB (fK p c.q)))]):=by
 refine bZ func186 VM ?_;refine bB {i:Nat // i≤p.length} (fun g=>[.one (.int .i64 g.1), .rows (rR (fK (p.take g.1) c.q))]) (fun g=>p.length-g.1) ⟨0,bV _⟩ aN.rfl (fun _=>rfl) ?_;rintro ⟨i,hi⟩;dsimp only [aD,aC] at hi ⊢;apply vn (aU fA (aP _)) rfl;apply vn aZ rfl;refine vs _ rfl ?_ ?_<;>intro h3
 ·obtain ⟨x,hx⟩:∃ x,p[i]? = some x:=⟨_,bI (by omega)⟩
  apply vn (aV fA hx) rfl;dsimp only [aD,aC];apply vn (bJ mR (by decide) (by simp) (.inl rfl)) rfl;apply aA (eS x c A B (hp x (cI hx)) hc hB) rfl;apply bP (us:=rR [.of (x.q*c.q)]) rfl;dsimp only [aD,aC];refine kK (xs:=fK (p.take i) c.q) (x:=.of (x.q*c.q)) (f:=rC) rfl rfl (by rw [fZ,List.length_take];omega) (by rw [fZ,List.length_take];simp only [maxLen];omega) ?_;rw [show fK (p.take i) c.q ++ [.of (x.q*c.q)]=fK (p.take (i+1)) c.q from nA (f:=fun a:RQ=>RQ.of (a.q*c.q)) hx];apply vn (aB) rfl;dsimp only [aD,aC];exact aR rfl ⟨⟨i+1,by omega⟩,aN.rfl,by show p.length-(i+1)<p.length-i;omega⟩
 rw [show i=p.length by omega,List.take_length];apply aA (vL (fK p c.q) (by rw [fZ];exact hs)) rfl;exact aK rfl
def atR (p:List RQ) (i:Nat):Rat:=((p.map RQ.q).getD i 0)
theorem lT {p:List RQ} {i:Nat} {x:RQ} (h:p[i]? = some x):atR p i=x.q:=by
 rw [atR,dS,cL,h];rfl
theorem Jh {p:List RQ} {i:Nat} (h:p.length≤i:=by omega):atR p i=0:=by
 rw [atR,dS,List.getElem?_eq_none (by simpa using h)];rfl
def Aw (a b:List RQ) (i:Nat):List RQ:=(List.range i).map fun k=>.of (atR a k+atR b k)
theorem vF (a b:List RQ) (i:Nat):(Aw a b i).length=i:=by simp [Aw]
theorem Av (a b:List RQ) (i:Nat):Aw a b i ++ [.of (atR a i+atR b i)]=Aw a b (i+1):=by simp [Aw,List.range_succ]
theorem UY (a b:List RQ) (A B:Nat) (ha:∀ x∈a,Fit A x.q) (hb:∀ x∈b,Fit B x.q) (hs2:b.length<1099511627776:=by omega) (hB:2*A+2*B≤1073741824:=by omega) (h64:64≤A:=by omega) (h64':64≤B:=by omega) (hs:a.length<1099511627776:=by omega):aM prog 185 [(.one (sR a):aE),(.one (sR b):aE)] (.ret [.one (sR (fB (Aw a b (max a.length b.length))))]):=by
 refine bZ func185 az3 ?_;have h0:Fit 64 (RQ.of ((0:Int):Rat)).q:=Fit.zero (by omega);refine bB {i:Nat // i≤max a.length b.length} (fun g=>[.one (.int .i64 g.1), .rows (rR (Aw a b g.1))]) (fun g=>max a.length b.length-g.1) ⟨0,bV _⟩ aN.rfl (fun _=>rfl) ?_;rintro ⟨i,hi⟩;dsimp only [aD,aC] at hi ⊢;have hsl:=vF a b i;apply vn (aU fA (aP _)) rfl;apply vn aZ rfl;refine vs _ rfl ?_ ?_<;>intro h3
 ·apply aA (gN 0) rfl;dsimp only [aD,aC];apply vn (aU fA (aP _)) rfl;apply vn aZ rfl;refine vs _ rfl ?_ ?_<;>intro h7
  ·obtain ⟨x,hx⟩:∃ x,a[i]? = some x:=⟨_,bI (by omega)⟩
   have hxA:=ha x (cI hx);apply vn (aV fA hx) rfl;dsimp only [aD,aC];apply vn (bJ mR (by decide) (by simp) (.inl rfl)) rfl;apply aA (jK (.of ((0:Int):Rat)) x 64 A h0 hxA) rfl;apply vn (aU fA (aP _)) rfl;dsimp only [aD,aC];apply vn aZ rfl;refine vs _ rfl ?_ ?_<;>intro h13
   ·obtain ⟨y,hy⟩:∃ y,b[i]? = some y:=⟨_,bI (by omega)⟩
    apply vn (aV fA hy) rfl;apply vn (bJ mR (by decide) (by simp) (.inl rfl)) rfl;dsimp only [aD,aC];apply aA (jK (.of ((RQ.of ((0:Int):Rat)).q+x.q)) y (64+A+1) B (h0.add hxA) (hb y (cI hy))) rfl;rw [show (RQ.of ((RQ.of ((0:Int):Rat)).q+x.q)).q+y.q=atR a i+atR b i by rw [lT hx,lT hy];show ((0:Int):Rat)+x.q+y.q=_;grind];apply bP (us:=rR [.of (atR a i+atR b i)]) rfl;refine kK (xs:=Aw a b i) (x:=.of (atR a i+atR b i)) (f:=rC) rfl rfl (by omega) (by simp only [maxLen];omega) ?_;rw [Av];dsimp only [aD,aC];apply vn (aB) rfl;dsimp only [aD,aC];exact aR rfl ⟨⟨i+1,by omega⟩,aN.rfl,by show max a.length b.length-(i+1)<max a.length b.length-i;omega⟩
   rw [show (RQ.of ((0:Int):Rat)).q+x.q=atR a i+atR b i by rw [lT hx,Jh (p:=b)];show ((0:Int):Rat)+x.q=_;grind];apply bP (us:=rR [.of (atR a i+atR b i)]) rfl;refine kK (xs:=Aw a b i) (x:=.of (atR a i+atR b i)) (f:=rC) rfl rfl (by omega) (by simp only [maxLen];omega) ?_;rw [Av];apply vn (aB) rfl;dsimp only [aD,aC];exact aR rfl ⟨⟨i+1,by omega⟩,aN.rfl,by show max a.length b.length-(i+1)<max a.length b.length-i;omega⟩
  exfalso;omega
 apply vn (aU fA (aP _)) rfl;apply vn aZ rfl;refine vs _ rfl ?_ ?_<;>intro h41
 ·apply aA (gN 0) rfl;dsimp only [aD,aC];apply vn (aU fA (aP _)) rfl;apply vn aZ rfl;refine vs _ rfl ?_ ?_<;>intro h45
  ·exfalso;omega
  apply vn (aU fA (aP _)) rfl;dsimp only [aD,aC];apply vn aZ rfl;refine vs _ rfl ?_ ?_<;>intro h65
  ·obtain ⟨y,hy⟩:∃ y,b[i]? = some y:=⟨_,bI (by omega)⟩
   apply vn (aV fA hy) rfl;apply vn (bJ mR (by decide) (by simp) (.inl rfl)) rfl;dsimp only [aD,aC];apply aA (jK (.of ((0:Int):Rat)) y 64 B h0 (hb y (cI hy))) rfl;rw [show (RQ.of ((0:Int):Rat)).q+y.q=atR a i+atR b i by rw [lT hy,Jh (p:=a)];show ((0:Int):Rat)+y.q=_;grind];apply bP (us:=rR [.of (atR a i+atR b i)]) rfl;refine kK (xs:=Aw a b i) (x:=.of (atR a i+atR b i)) (f:=rC) rfl rfl (by omega) (by simp only [maxLen];omega) ?_;rw [Av];dsimp only [aD,aC];apply vn (aB) rfl;dsimp only [aD,aC];exact aR rfl ⟨⟨i+1,by omega⟩,aN.rfl,by show max a.length b.length-(i+1)<max a.length b.length-i;omega⟩
  exfalso;omega
 rw [show i=max a.length b.length by omega];apply aA (vL (Aw a b (max a.length b.length)) (by rw [vF];omega)) rfl;exact aK rfl
def Np (a b:List RQ):List RQ:=fB (Aw a b (max a.length b.length))
theorem rM (p:List RQ):(fB p).length≤p.length:=by rw [yD];exact iK p
theorem Ok (a b:List RQ):(Np a b).length≤max a.length b.length:=Nat.le_trans (rM _) (by rw [vF];exact bC _)
def mulR (a b:List RQ):Nat→List RQ
 | 0=>[]
 | i+1=>Np (mulR a b i) (List.replicate i .nil++fB (fK a (atR b i)))
theorem Ip (a b:List RQ):∀ i,(mulR a b i).length≤a.length+i
 | 0=>bV _
 | i+1=>by
   rw [mulR];refine Nat.le_trans (Ok _ _) ?_;have h1:=Ip a b i;have h2:=rM (fK a (atR b i));rw [fZ] at h2;rw [eJ,List.length_replicate];omega
theorem aT8 (n:Nat) (us:List RQ):aY (aY aG.Sub) (List.replicate n z4++rR us) (rR (List.replicate n .nil++us)):=by
 rw [show rR (List.replicate n RQ.nil++us)=List.replicate n (rC .nil)++rR us by rw [rR,List.map_append,List.map_replicate]];exact aY.append (rW eI n) (aY.nI (aY.nI aG.Sub.refl) _)
set_option maxHeartbeats 1000000 in
theorem aY8 (a b:List RQ) (A B F:Nat) (ha:∀ x∈a,Fit A x.q) (hb:∀ x∈b,Fit B x.q) (hF:∀ i,i≤b.length→∀ x∈mulR a b i,Fit F x.q) (hs2:b.length≤1073741824) (hB:2*F+2*(A+B)≤1073741824:=by omega) (h64:64≤A:=by omega) (h64':64≤F:=by omega) (hs:a.length≤1073741824:=by omega):aM prog 187 [(.one (sR a):aE),(.one (sR b):aE)] (.ret [.one (sR (mulR a b b.length))]):=by
 refine bZ func187 aM9 ?_;refine bB {i:Nat // i≤b.length} (fun g=>[.one (sR (mulR a b g.1)), .one (.int .i64 g.1)]) (fun g=>b.length-g.1) ⟨0,bV _⟩ ⟨aG.Sub.nil,aE.Sub.same,trivial⟩ (fun _=>rfl) ?_;rintro ⟨i,hi⟩;dsimp only [aD,aC] at hi ⊢;apply vn (aU fA (aP _)) rfl;apply vn aZ rfl;refine vs _ rfl ?_ ?_<;>intro h3
 ·obtain ⟨x,hx⟩:∃ x,b[i]? = some x:=⟨_,bI (by omega)⟩
  have hat:=lT hx;have hml:=Ip a b i;have htl:=rM (fK a x.q);rw [fZ] at htl;have hlen:(List.replicate i z4++rR (fB (fK a x.q))).length=i+(fB (fK a x.q)).length:=by rw [eJ,List.length_replicate,aP]
  refine tQ (n:=i) (m:=i) (us:=List.replicate i z4) rfl rfl rfl (bC _) (by omega) (by simp only [maxLen];omega) ?_;dsimp only [aD,aC];apply vn (aV fA hx) rfl;apply vn (bJ mR (by decide) (by simp) (.inl rfl)) rfl;apply aA (IL a x A B ha (hb x (cI hx))) rfl;dsimp only [aD,aC];refine qQ (ts:=List.replicate i z4) (us:=rR (fB (fK a x.q))) (vs:=List.replicate i z4++rR (fB (fK a x.q))) rfl (.inr aG.Sub.same) rfl (by rw [hlen];omega) (by rw [hlen];simp only [maxLen];omega) ?_;dsimp only [aD,aC];refine Bb (show aN _ [.one (sR (mulR a b i)), .one (sR (List.replicate i .nil++fB (fK a x.q)))] from ⟨aE.Sub.same,aG.Sub.slice (aT8 i _),trivial⟩) (UY _ _ F (A+B) (hF i hi) (fun y hy=>?_) (by rw [eJ,List.length_replicate];omega)) rfl ?_
  ·rcases List.mem_append.1 hy with h | h
   ·rw [(List.mem_replicate.1 h).2];exact Fit.zero (by omega)
   ·obtain ⟨u,hu,rfl⟩:=gJ.1 (List.mem_of_mem_take h);exact (ha u hu).mul (hb x (cI hx))
  apply vn (aB) rfl;dsimp only [aD,aC];exact aR rfl ⟨⟨i+1,by omega⟩,aN.of_eq (by dsimp only;rw [mulR,hat];rfl),by show b.length-(i+1)<b.length-i;omega⟩
 rw [show b.length=i by omega];exact aK rfl
def qP (q:List RQ):Nat→List RQ
 | 0=>fB [.of ((1:Int):Rat)]
 | i+1=>mulR (qP q i) q q.length
theorem Ik (q:List RQ):∀ i,(qP q i).length≤1+i*q.length
 | 0=>by rw [qP,Nat.zero_mul];exact rM _
 | i+1=>by
   have h1:=Ip (qP q i) q q.length;have h2:=Ik q i;rw [qP,Nat.add_mul];omega
def jC (p q:List RQ):Nat→List RQ
 | 0=>[]
 | i+1=>Np (jC p q i) (fB (fK (qP q i) (atR p i)))
theorem Ae (p q:List RQ):∀ i,(jC p q i).length≤1+i*q.length
 | 0=>bV _
 | i+1=>by
   have h1:=Ae p q i;have h2:=Ik q i;have h3:=rM (fK (qP q i) (atR p i));rw [fZ] at h3;rw [jC,Nat.add_mul];refine Nat.le_trans (Ok _ _) ?_;omega
structure Lr (F:Nat) (p q:List RQ):Prop where
 fp:∀ x∈p,Fit F x.q
 fq:∀ x∈q,Fit F x.q
 fw:∀ i,i≤p.length→∀ x∈qP q i,Fit F x.q
 fm:∀ i,i≤p.length→∀ j,j≤q.length→∀ x∈mulR (qP q i) q j,Fit F x.q
 fc:∀ i,i≤p.length→∀ x∈jC p q i,Fit F x.q
set_option maxHeartbeats 1000000 in
theorem Ly (p q:List RQ) (F:Nat) (C:Lr F p q) (hF:F≤100000000) (h64:64≤F) (hl:1+(p.length+1)*q.length≤1073741824) (hs:p.length≤1073741824):aM prog 106 [(.one (sR p):aE),(.one (sR q):aE)] (.ret [.one (sR (jC p q p.length))]):=by
 refine bZ func106 MK ?_;have hql:q.length≤1073741824:=by rw [Nat.add_mul] at hl;omega
 apply aA (gN 1) rfl;apply aA (Kx (.of ((1:Int):Rat))) rfl;refine bB {i:Nat // i≤p.length} (fun g=>[.one (sR (jC p q g.1)), .one (sR (qP q g.1)), .one (.int .i64 g.1)]) (fun g=>p.length-g.1) ⟨0,bV _⟩ ⟨aG.Sub.nil,aE.Sub.same,aE.Sub.same,trivial⟩ (fun _=>rfl) ?_;rintro ⟨i,hi⟩;dsimp only [aD,aC] at hi ⊢;apply vn (aU fA (aP _)) rfl;apply vn aZ rfl;refine vs _ rfl ?_ ?_<;>intro h5
 ·obtain ⟨x,hx⟩:∃ x,p[i]? = some x:=⟨_,bI (by omega)⟩
  have hat:=lT hx;have hxF:=C.fp x (cI hx);have hw:=Ik q i;have hcl:=Ae p q i;have hil:i*q.length≤(p.length+1)*q.length:=Nat.mul_le_mul_right _ (by omega);have htl:=rM (fK (qP q i) x.q);rw [fZ] at htl;apply vn (aV fA hx) rfl;dsimp only [aD,aC];apply vn (bJ mR (by decide) (by simp) (.inl rfl)) rfl;apply aA (IL (qP q i) x F F (C.fw i hi) hxF) rfl
  refine aA (UY (jC p q i) (fB (fK (qP q i) x.q)) F (F+F) (C.fc i hi) (fun y hy=>by
   obtain ⟨u,hu,rfl⟩:=gJ.1 (List.mem_of_mem_take hy);exact (C.fw i hi u hu).mul hxF)) rfl ?_
  dsimp only [aD,aC];apply aA (aY8 (qP q i) q F F F (C.fw i hi) C.fq (C.fm i hi) hql) rfl;apply vn (aB) rfl;dsimp only [aD,aC];exact aR rfl ⟨⟨i+1,by omega⟩,aN.of_eq (by dsimp only;rw [jC,qP,hat];rfl),by show p.length-(i+1)<p.length-i;omega⟩
 rw [show p.length=i by omega];exact aK rfl
theorem nH (z:Int) (i B:Nat) (hf:∀ j,j≤i→Fit B ((bL z j:Int):Rat)) (h64:64≤B:=by omega) (hz1:-4611686018427387904≤z:=by omega) (hz2:z<4611686018427387904:=by omega) (hi:i<4611686018427387904:=by omega) (hB:B≤1073741824:=by omega):aM prog 103 [(.one (.int .i64 z):aE),(.one (.int .i64 i):aE)] (.ret [fO (.of ((bL z i:Int):Rat))]):=by
 refine bZ func103 My ?_;apply aA (gN 1) rfl;refine bB {j:Nat // j≤i} (fun g=>(.one (.int .i64 g.1):aE)::(rC (.of ((bL z g.1:Int):Rat))).map aE.one) (fun g=>i-g.1) ⟨0,bV _⟩ aN.rfl (fun _=>rfl) ?_;rintro ⟨j,hj⟩;dsimp only [aD,aC,List.map] at hj ⊢;apply vn aZ rfl;refine vs _ rfl ?_ ?_<;>intro h3
 ·apply vn (aH) rfl;apply aA (gN (z-j)) rfl;dsimp only [aD,aC];apply aA (eS (.of ((bL z j:Int):Rat)) (.of ((z-j:Int):Rat)) B 64 (hf j hj) (fH)) rfl;rw [show (RQ.of ((bL z j:Int):Rat)).q*(RQ.of ((z-(j:Int):Int):Rat)).q=((bL z (j+1):Int):Rat) by rw [bL,Rat.intCast_mul];rfl];apply vn (aB) rfl;dsimp only [aD,aC];exact aR rfl ⟨⟨j+1,by omega⟩,aN.rfl,by show i-(j+1)<i-j;omega⟩
 rw [show i=j by omega];exact aK rfl
open Go Go.Proofs Tryz Ord
def aC0:Tr:=dR 6 0 none 167 16 (.need (.call 50 [(WK 1)] [(some 4)]) (.call ⟨.value (.func 50),#[(.const (I3 1))],#[2]⟩) 49 false (.need (.lit 4 [[(.u 1 0),(.u 1 1),(.u 1 2),(.u 1 3)],[(.u 8 0),(.u 8 1),(.u 8 2),(.u 8 3)]]) (.buildSlice 167 2 #[(0,(tT 18)),(1,(tT 19))]) 167 false (aJ 106 [(W 7 0),(.one (.c (.sr 4 9)))] [none] [17,20] [167,167] 167 true (.need (.lit 1 [[(.u 10 0)]]) (.buildSlice 44 1 #[(0,(tT 21))]) 44 false (.need (.app 1 24 (some 3) none (some 11)) (.call ⟨.builtin .append,#[(tT 13),(tT 22)],#[44,44]⟩) 44 false (aW .add 3 11 1 2 0 3 OV))))))
def aA5:Tr:=.loop 0 [lK 0, .nilrow] (cU 0 0 8 44 (bO .lss 3 7 9 2 0 4 0 4 (.split (.u 5 0) (eN 0 0 2 0 44 14 15 aC0) (.ret [(.one (.c (.sr 1 3)))]))))
theorem TA:aL prog f125 (fun _=>none) [.v none, .v (some 4)]=aA5:=by kernel_rfl
def aT1:Tr:=eN 1 0 5 0 50 29 30 (dR 9 0 (some 4) 49 31 (aJ 103 [(W 5 0),(W 5 0)] [(some 4)] [33,34] [3,3] 49 false (aJ 102 [(G4 10),(G4 11)] [(some 4)] [32,35] [49,49] 49 true (.need (.lit 4 [[(.u 12 0),(.u 12 1),(.u 12 2),(.u 12 3)]]) (.buildSlice 50 1 #[(0,(tT 36))]) 50 false (.need (.app 4 64 (some 6) none (some 13)) (.call ⟨.builtin .append,#[(tT 28),(tT 37)],#[50,50]⟩) 50 false (aW .add 3 26 1 5 0 3 OI))))))
def YP:Tr:=.need (.idx 10 (.u 38 0)) (.indexAddr 50 (tT 86) (tT 89)) 0 false (.need (.ldrow 10 (.u 38 0) 0 4 true) (.load 49 (tT 90)) 49 false (aJ 104 [(G4 37),(G4 39)] [(some 4)] [85,91] [49,49] 49 false (aJ 104 [(G4 35),(G4 40)] [(some 4)] [80,92] [49,49] 49 true (aJ 48 [(.agg [(U 19 0),(U 20 0),(U 21 0),(U 22 0)]),(G4 41)] [(some 4)] [73,93] [49,49] 49 true (aW .add 3 64 1 18 0 3 (.back 2 [lV 43 0,lV 42 0,lV 42 1,lV 42 2,lV 42 3]))))))
def ZI:Tr:=eN 0 0 12 0 44 74 75 (dR 32 0 none 167 76 (eN 33 0 18 0 167 77 78 (dR 34 0 (some 4) 49 79 (bO .sub 3 81 82 9 0 30 0 3 (aJ 103 [(W 36 0),(W 12 0)] [(some 4)] [83,84] [3,3] 49 false (bO .sub 3 87 88 9 0 30 0 3 YP))))))
def Yw:Tr:=.split (.u 28 0) (bO .add 3 66 67 4 0 18 0 3 (bO .sub 3 68 69 29 0 12 0 3 (aW .gtr 3 71 0 30 0 4 (.split (.u 31 0) ZI (aW .add 3 64 1 18 0 3 (.back 2 [lV 32 0,lV 19 0,lV 20 0,lV 21 0,lV 22 0])))))) (aW .add 3 48 1 12 0 3 (.back 1 [lV 29 0,lV 19 0,lV 20 0,lV 21 0,lV 22 0]))
def XL:Tr:=bO .sub 3 51 52 9 0 4 0 3 (bO .leq 3 50 53 18 0 23 0 4 (.split (.u 24 0) (eN 0 0 12 0 44 57 58 (dR 25 0 none 167 59 (cU 26 0 60 167 (bO .lss 3 56 61 18 0 27 0 4 Yw)))) (aW .add 3 48 1 12 0 3 (.back 1 [lV 25 0,lV 19 0,lV 20 0,lV 21 0,lV 22 0]))))
def an8:Tr:=aJ 104 [(G4 21),(G4 22)] [(some 4)] [102,105] [49,49] 49 false (aJ 102 [(.agg [(U 13 0),(U 14 0),(U 15 0),(U 16 0)]),(G4 23)] [(some 4)] [96,106] [49,49] 49 false (aJ 105 [(G4 24)] [(some 4)] [107] [49] 49 true (.need (.lit 4 [[(.u 25 0),(.u 25 1),(.u 25 2),(.u 25 3)]]) (.buildSlice 50 1 #[(0,(tT 108))]) 50 false (.need (.app 4 64 (some 10) none (some 26)) (.call ⟨.builtin .append,#[(tT 95),(tT 109)],#[50,50]⟩) 50 false (aW .add 3 43 1 9 0 3 (.back 0 [lV 28 0, .row 27]))))))
def ah7:Tr:=bO .leq 3 45 46 12 0 4 0 4 (.split (.u 17 0) (.loop 2 [lK 0,lV 13 0,lV 14 0,lV 15 0,lV 16 0] XL) (eN 0 0 4 0 44 97 98 (dR 18 0 none 167 99 (.need (.prim [(W 19 0),(WK 0)] none) (.indexAddr 167 (tT 100) (.const (I3 0))) 0 false (dR 20 0 (some 4) 49 101 (aJ 103 [(W 9 0),(W 4 0)] [(some 4)] [103,104] [3,3] 49 false an8))))))
def am2:Tr:=.need (.idx 9 (.u 37 0)) (.indexAddr 50 (tT 86) (tT 89)) 0 false (.need (.ldrow 9 (.u 37 0) 0 4 true) (.load 49 (tT 90)) 49 false (aJ 104 [(G4 36),(G4 38)] [(some 4)] [85,91] [49,49] 49 false (aJ 104 [(G4 34),(G4 39)] [(some 4)] [80,92] [49,49] 49 true (aJ 48 [(.agg [(U 18 0),(U 19 0),(U 20 0),(U 21 0)]),(G4 40)] [(some 4)] [73,93] [49,49] 49 true (aW .add 3 64 1 17 0 3 (.back 2 [lV 42 0,lV 41 0,lV 41 1,lV 41 2,lV 41 3]))))))
def XW:Tr:=eN 0 0 11 0 44 74 75 (dR 31 0 none 167 76 (eN 32 0 17 0 167 77 78 (dR 33 0 (some 4) 49 79 (bO .sub 3 81 82 8 0 29 0 3 (aJ 103 [(W 35 0),(W 11 0)] [(some 4)] [83,84] [3,3] 49 false (bO .sub 3 87 88 8 0 29 0 3 am2))))))
def ae5:Tr:=.split (.u 27 0) (bO .add 3 66 67 4 0 17 0 3 (bO .sub 3 68 69 28 0 11 0 3 (aW .gtr 3 71 0 29 0 4 (.split (.u 30 0) XW (aW .add 3 64 1 17 0 3 (.back 2 [lV 31 0,lV 18 0,lV 19 0,lV 20 0,lV 21 0])))))) (aW .add 3 48 1 11 0 3 (.back 1 [lV 28 0,lV 18 0,lV 19 0,lV 20 0,lV 21 0]))
def af6:Tr:=bO .sub 3 51 52 8 0 4 0 3 (bO .leq 3 50 53 17 0 22 0 4 (.split (.u 23 0) (eN 0 0 11 0 44 57 58 (dR 24 0 none 167 59 (cU 25 0 60 167 (bO .lss 3 56 61 17 0 26 0 4 ae5)))) (aW .add 3 48 1 11 0 3 (.back 1 [lV 24 0,lV 18 0,lV 19 0,lV 20 0,lV 21 0]))))
def Vy:Tr:=aJ 104 [(G4 20),(G4 21)] [(some 4)] [102,105] [49,49] 49 false (aJ 102 [(.agg [(U 12 0),(U 13 0),(U 14 0),(U 15 0)]),(G4 22)] [(some 4)] [96,106] [49,49] 49 false (aJ 105 [(G4 23)] [(some 4)] [107] [49] 49 true (.need (.lit 4 [[(.u 24 0),(.u 24 1),(.u 24 2),(.u 24 3)]]) (.buildSlice 50 1 #[(0,(tT 108))]) 50 false (.need (.app 4 64 (some 9) none (some 25)) (.call ⟨.builtin .append,#[(tT 95),(tT 109)],#[50,50]⟩) 50 false (aW .add 3 43 1 8 0 3 (.back 0 [lV 27 0, .row 26]))))))
def aa0:Tr:=bO .leq 3 45 46 11 0 4 0 4 (.split (.u 16 0) (.loop 2 [lK 0,lV 12 0,lV 13 0,lV 14 0,lV 15 0] af6) (eN 0 0 4 0 44 97 98 (dR 17 0 none 167 99 (.need (.prim [(W 18 0),(WK 0)] none) (.indexAddr 167 (tT 100) (.const (I3 0))) 0 false (dR 19 0 (some 4) 49 101 (aJ 103 [(W 8 0),(W 4 0)] [(some 4)] [103,104] [3,3] 49 false Vy))))))
def bb7:Tr:=.split (.u 7 0) (bO .lss 3 22 23 5 0 2 0 4 (.split (.u 8 0) aT1 (.loop 0 [lV 4 0, .row 6] (bO .lss 3 40 41 9 0 2 0 4 (.split (.u 11 0) (.loop 1 [lK 0,lK 0,lN,lK 0,lN] ah7) (.ret [(.one (.c (.sr 4 10)))])))))) (.loop 0 [lV 4 0, .row 6] (bO .lss 3 40 41 8 0 2 0 4 (.split (.u 10 0) (.loop 1 [lK 0,lK 0,lN,lK 0,lN] aa0) (.ret [(.one (.c (.sr 4 9)))]))))
def aE0:Tr:=cU 0 0 15 44 (aW .sub 3 16 1 3 0 3 (.loop 0 [lK 0, .nilrow] (bO .lss 3 18 19 5 0 4 0 4 bb7)))
theorem Rf:aL prog f28 (fun _=>none) [.v none, .v none, .v none]=aE0:=by kernel_rfl
def Bn (e:List (List RQ)) (c:RQ):List (List RQ):=e.map fun p=>jC p [c, .of ((1:Int):Rat)] p.length
theorem IX (e:List (List RQ)) (c:RQ) (F:Nat) (C:∀ p∈e,Lr F p [c, .of ((1:Int):Rat)]∧p.length≤1048576) (h64:64≤F) (hs:e.length<1048576) (hF:F≤100000000:=by omega):aM prog 125 [(.one (eR e):aE),(fO c:aE)] (.ret [.one (eR (Bn e c))]):=by
 refine bZ func125 TA ?_;refine bB {i:Nat // i≤e.length} (fun g=>[.one (.int .i64 g.1), .rows ((Bn (e.take g.1) c).map cR)]) (fun g=>e.length-g.1) ⟨0,bV _⟩ aN.rfl (fun _=>rfl) ?_;rintro ⟨i,hi⟩;dsimp only [aD,aC] at hi ⊢;have hsl:(Bn (e.take i) c).length=i:=by rw [Bn,aP,List.length_take];omega
 apply vn (aU kC (aP _)) rfl;apply vn aZ rfl;refine vs _ rfl ?_ ?_<;>intro h3
 ·obtain ⟨p,hp⟩:∃ p,e[i]? = some p:=⟨_,bI (by omega)⟩
  obtain ⟨hC,hl⟩:=C p (cI hp);apply vn (aV kC hp) rfl;dsimp only [aD,aC];apply vn (bG oA) rfl;apply aA (gN 1) rfl;apply bP (us:=rR [c, .of ((1:Int):Rat)]) rfl;dsimp only [aD,aC];apply aA (Ly p [c, .of ((1:Int):Rat)] F hC hF h64 (by simp only [List.length_cons,List.length_nil];omega) (by omega)) rfl;apply bP (us:=[cR (jC p [c, .of ((1:Int):Rat)] p.length)]) rfl;refine kK (xs:=Bn (e.take i) c) (x:=jC p [c, .of ((1:Int):Rat)] p.length) (f:=cR) rfl rfl (by omega) (by simp only [maxLen];omega) ?_;rw [show Bn (e.take i) c ++ [jC p [c, .of ((1:Int):Rat)] p.length]=Bn (e.take (i+1)) c from nA (f:=fun p:List RQ=>jC p [c, .of ((1:Int):Rat)] p.length) hp];dsimp only [aD,aC];apply vn (aB) rfl;dsimp only [aD,aC];exact aR rfl ⟨⟨i+1,by omega⟩,aN.rfl,by show e.length-(i+1)<e.length-i;omega⟩
 rw [show i=e.length by omega,List.take_length];exact aK rfl
theorem Fit.bo3 {B:Nat} {q:Rat} (h:Fit B q):Fit B (-q):=⟨by show (-q.num).natAbs<_;rw [Int.natAbs_neg];exact h.1,h.2⟩
theorem Ba {B:Nat} {q:List (List Rat)} {m:Nat} {lead:Rat} {y:List Rat} {N:Nat} (C:iG B q m lead y N):∀ {n:Nat},n≤N→∀ {b:Rat},b∈aX q m lead y n→Fit B b
 | 0,_,b,hb=>by cases hb
 | n+1,hn,b,hb=>by
   rw [aX] at hb;rcases List.mem_append.1 hb with h | h
   ·exact Ba C (by omega) h
   ·rw [List.mem_singleton.1 h];exact C.fa n (by omega)
set_option maxHeartbeats 4000000 in
theorem Qq (e:List (List RQ)) (y:List RQ) (n N B m:Nat) (lead:RQ) (p0:List RQ) (hem:e[m]? = some p0) (hp0:p0[0]? = some lead) (hel:e.length=m+1) (C:iG B (fP e) m lead.q (y.map RQ.q) N) (hnN:n≤N) (h64:64≤B) (hpl:∀ p∈e,p.length≤1048576) (hl0:lead.q≠0) (hN:N≤1048576:=by omega) (hm:m≤64:=by omega) (hmN:m≤N:=by omega) (hB:B≤350000000:=by omega) (hyl:y.length=m:=by omega):aM prog 28 [(.one (eR e):aE),(.one (sR y):aE),(.one (.int .i64 n):aE)] (.ret [.one (sR ((aX (fP e) m lead.q (y.map RQ.q) n).map RQ.of))]):=by
 refine bZ func28 Rf ?_;have hlen:=fun k=>bW (fP e) m lead.q (y.map RQ.q) k;have hfl:=fun k (hk:k<m)=>C.ffac k hk;have hsn:∀ k,(aX (fP e) m lead.q (y.map RQ.q) k).map RQ.of ++ [.of (iP (fP e) m lead.q (y.map RQ.q) k (aX (fP e) m lead.q (y.map RQ.q) k))]=(aX (fP e) m lead.q (y.map RQ.q) (k+1)).map RQ.of:=fun k=>by rw [aX,List.map_append];rfl
 apply vn (aU kC (aP _)) rfl;apply vn (aH) rfl;rw [show (e.length:Int)-1=(m:Int) by omega];refine bB {i:Nat // i≤m∧i≤n} (fun g=>[.one (.int .i64 g.1), .rows (rR ((aX (fP e) m lead.q (y.map RQ.q) g.1).map RQ.of))]) (fun g=>m-g.1) ⟨0,bV _,bV _⟩ aN.rfl (fun _=>rfl) ?_;rintro ⟨i,hi,hin⟩;dsimp only [aD,aC] at hi hin ⊢;have hli:=hlen i;apply vn aZ rfl;refine vs _ rfl ?_ ?_<;>intro h4
 ·apply vn aZ rfl;refine vs _ rfl ?_ ?_<;>intro h6
  ·obtain ⟨yi,hyi⟩:∃ yi,y[i]? = some yi:=⟨_,bI (by omega)⟩
   have him:i<m:=by omega
   have hyg:(y.map RQ.q).getD i 0=yi.q:=by rw [dS,cL,hyi];rfl
   have hyf:Fit B yi.q:=C.fy _ (List.mem_map_of_mem (cI hyi));have hff:=hfl i him;apply vn (aV yW hyi) rfl;dsimp only [aD,aC];apply vn (bJ mR (by decide) (by simp) (.inl rfl)) rfl;apply aA (nH (i:Int) i B hff h64) rfl;apply aA (xZ yi (.of ((bL i i:Int):Rat)) B B (Jp (nN (Int.le_refl _))) hyf (hff i (bC _))) rfl;rw [show yi.q/(RQ.of ((bL i i:Int):Rat)).q=iP (fP e) m lead.q (y.map RQ.q) i (aX (fP e) m lead.q (y.map RQ.q) i) by rw [iP,if_pos him,hyg];rfl];dsimp only [aD,aC];apply bP (us:=rR [.of (iP (fP e) m lead.q (y.map RQ.q) i (aX (fP e) m lead.q (y.map RQ.q) i))]) rfl;refine kK (xs:=(aX (fP e) m lead.q (y.map RQ.q) i).map RQ.of) (x:=.of (iP (fP e) m lead.q (y.map RQ.q) i (aX (fP e) m lead.q (y.map RQ.q) i))) (f:=rC) rfl rfl (by rw [aP];omega) (by rw [aP];simp only [maxLen];omega) ?_;rw [hsn];apply vn (aB) rfl;dsimp only [aD,aC];exact aR rfl ⟨⟨i+1,by omega,by omega⟩,aN.rfl,by show m-(i+1)<m-i;omega⟩
  refine bB Unit (fun _=>[.one (.int .i64 m), .rows (rR ((aX (fP e) m lead.q (y.map RQ.q) i).map RQ.of))]) (fun _=>0) () aN.rfl (fun _=>rfl) ?_;rintro ⟨⟩;dsimp only [aD,aC];apply vn aZ rfl;refine vs _ rfl ?_ ?_<;>intro h17
  ·exfalso;omega
  rw [show n=i by omega];exact aK rfl
 have him:i=m:=by omega
 subst him;refine bB {j:Nat // i≤j∧j≤n} (fun g=>[.one (.int .i64 g.1), .rows (rR ((aX (fP e) i lead.q (y.map RQ.q) g.1).map RQ.of))]) (fun g=>n-g.1) ⟨i,bC _,hin⟩ aN.rfl (fun _=>rfl) ?_;rintro ⟨j,hij,hjn⟩;dsimp only [aD,aC] at hij hjn ⊢;have hlj:=hlen j;apply vn aZ rfl;refine vs _ rfl ?_ ?_<;>intro h69
 ·have hjn':j<n:=by omega
  have hfx:=fun a k h1 h2=>C.fx j a k (by omega) hij h1 h2;have hel2:(fP e).length=i+1:=by rw [jI,hel]
  generalize hA:aX (fP e) i lead.q (y.map RQ.q) j=A at *;refine bB {g:Nat×RQ // g.1≤i+1∧g.2.q = -(outer (fP e) A i j g.1)} (fun g=>(.one (.int .i64 g.1.1):aE)::(rC g.1.2).map aE.one) (fun g=>i+1-g.1.1) ⟨(0, .nil),bV _,by show (0:Rat) = -(0:Rat);grind⟩ ⟨aE.Sub.same,eI.1,eI.2.1,eI.2.2.1,eI.2.2.2.1,trivial⟩ (fun _=>rfl) ?_;rintro ⟨⟨a,r⟩,ha,hr⟩;dsimp only [aD,aC,List.map] at ha hr ⊢;apply vn eW rfl;refine vs _ rfl ?_ ?_<;>intro h72
  ·obtain ⟨p,hp⟩:∃ p,e[a]? = some p:=⟨_,bI (by omega)⟩
   have hpl':=hpl p (cI hp);have hqa:(fP e).getD a []=p.map RQ.q:=by rw [dS,fP,cL,hp];rfl
   have hfxa:=fun k h2=>hfx a k (by omega) h2;rw [hqa,aP] at hfxa;refine bB {g:Nat×RQ // g.1≤min p.length (j-i+1)∧g.2.q = -(inner (p.map RQ.q) A i j a (outer (fP e) A i j a) g.1)} (fun g=>(.one (.int .i64 g.1.1):aE)::(rC g.1.2).map aE.one) (fun g=>min p.length (j-i+1)-g.1.1) ⟨(0,r),bV _,hr⟩ aN.rfl (fun _=>rfl) ?_;rintro ⟨⟨k,s⟩,hk,hs⟩;dsimp only [aD,aC,List.map] at hk hs ⊢;apply vn (aH) rfl;apply vn eW rfl;refine vs _ rfl ?_ ?_<;>intro h76
   ·apply vn (aV kC hp) rfl;dsimp only [aD,aC];apply vn (bG oA) rfl;apply vn (aU fA (aP _)) rfl;apply vn aZ rfl;dsimp only [aD,aC];refine vs _ rfl ?_ ?_<;>intro h81
    ·have hkp:k<p.length:=by omega
     have hkj:k≤j-i:=by omega
     obtain ⟨x,hx⟩:∃ x,p[k]? = some x:=⟨_,bI hkp⟩
     have hxg:(p.map RQ.q).getD k 0=x.q:=by rw [dS,cL,hx];rfl
     have hxf:Fit B x.q:=C.fq _ (by rw [fP];exact List.mem_map_of_mem (cI hp)) _ (List.mem_map_of_mem (cI hx));apply vn (aB) rfl;apply vn (aH) rfl;apply vn dH rfl;dsimp only [aD,aC];refine vs _ rfl ?_ ?_<;>intro h85
     ·have hpos:a<i+k:=by omega
      obtain ⟨t,ht⟩:∃ t,j-(i+k-a)=t:=⟨_,rfl⟩
      have htj:(j:Int)-((i:Int)+(k:Int)-(a:Int))=(t:Int):=by omega
      have hAl:A.length=j:=hlj;obtain ⟨at',hat⟩:∃ z,A[t]? = some z:=⟨_,bI (by omega)⟩
      have hmapl:(A.map RQ.of).length=j:=by rw [aP];exact hAl
      have hag:A.getD (j-(i+k-a)) 0=at':=by rw [ht,dS,hat];rfl
      apply vn (aV kC hp) rfl;apply vn (bG oA) rfl;apply vn (aV fA hx) rfl;dsimp only [aD,aC];apply vn (bJ mR (by decide) (by simp) (.inl rfl)) rfl;apply vn (aH) rfl;rw [htj];dsimp only [aD,aC];have hfz:∀ w,w≤a→Fit B ((bL (t:Int) w:Int):Rat):=fun w hw=>C.ffall j a (by omega) (by omega) (t:Int) (by omega) w hw;apply aA (nH (t:Int) a B hfz h64) rfl;apply vn (aH) rfl;rw [htj];refine dI rfl rfl (by omega) (by first | omega | (rw [List.length_set];omega)) ?_;have hrow:(A.map RQ.of)[((t:Nat):Int).toNat]? = some (RQ.of at'):=by rw [Int.toNat_natCast,cL,hat];rfl
      refine Fw rfl rfl (by omega) (by omega) hrow (.inl rfl) rfl ?_;dsimp only [aD,aC,IJ,List.drop,List.take]
      have haf:Fit B at':=by
       have hmem:=cI hat;rw [←hA] at hmem;exact Ba C (by omega) hmem
      apply aA (eS (.of ((bL (t:Int) a:Int):Rat)) (.of at') B B (hfz a (bC _)) haf) rfl;apply aA (eS x (.of ((RQ.of ((bL (t:Int) a:Int):Rat)).q*(RQ.of at').q)) B (B+B) hxf ((hfz a (bC _)).mul haf)) rfl;dsimp only [aD,aC];have hsf:Fit B s.q:=by rw [hs];exact Fit.bo3 (hfxa k hk)
      apply aA (jK s _ B (B+(B+B)) hsf (hxf.mul ((hfz a (bC _)).mul haf))) rfl;apply vn (aB) rfl
      exact aR rfl ⟨⟨(k+1,_),by dsimp only;omega,by
       show s.q+x.q*(((bL (t:Int) a:Int):Rat)*at')=_;dsimp only;rw [hs,inner,if_pos hpos,hxg,htj,hag]
       grind⟩,aN.rfl,by show min p.length (j-i+1)-(k+1)<min p.length (j-i+1)-k;omega⟩
     apply vn (aB) rfl
     exact aR rfl ⟨⟨(k+1,s),by dsimp only;omega,by
      dsimp only;rw [hs,inner,if_neg (by omega)]⟩,aN.rfl,by show min p.length (j-i+1)-(k+1)<min p.length (j-i+1)-k;omega⟩
    apply vn (aB) rfl
    exact aR rfl ⟨⟨(a+1,s),by dsimp only;omega,by
     dsimp only;rw [hs,outer,hqa,aP,show min p.length (j-i+1)=k by omega]⟩,aN.rfl,by show i+1-(a+1)<i+1-a;omega⟩
   apply vn (aB) rfl
   exact aR rfl ⟨⟨(a+1,s),by dsimp only;omega,by
    dsimp only;rw [hs,outer,hqa,aP,show min p.length (j-i+1)=k by omega]⟩,aN.rfl,by show i+1-(a+1)<i+1-a;omega⟩
  have hai:a=i+1:=by omega
  subst hai;have hqi:(fP e).getD i []=p0.map RQ.q:=by rw [dS,fP,cL,hem];rfl
  have hro:Fit B r.q:=by
   rw [hr];refine Fit.bo3 ?_;have:=hfx i (min ((fP e).getD i []).length (j-i+1)) (by omega) (bC _);exact this
  have hfz:∀ w,w≤i→Fit B ((bL (j:Int) w:Int):Rat):=fun w hw=>C.ffall j i (by omega) (by omega) (j:Int) (by omega) w hw;have hfn:((bL (j:Int) i:Int):Rat)≠0:=Jp (nN (by omega));apply vn (aV kC hem) rfl;apply vn (bG oA) rfl;apply vn (aV fA hp0) rfl;dsimp only [aD,aC];apply vn (bJ mR (by decide) (by simp) (.inl rfl)) rfl;apply aA (nH (j:Int) i B hfz h64) rfl;apply aA (eS lead (.of ((bL (j:Int) i:Int):Rat)) B B C.flead (hfz i (bC _))) rfl;dsimp only [aD,aC]
  apply aA (xZ r (.of (lead.q*(RQ.of ((bL (j:Int) i:Int):Rat)).q)) B (B+B) (fun e0=>by
   rcases Rat.mul_eq_zero.1 e0 with e0 | e0
   ·exact hl0 e0
   ·exact hfn e0) hro (C.flead.mul (hfz i (bC _)))) rfl
  apply aA (Eo _) rfl
  rw [show -(RQ.of (r.q/(RQ.of (lead.q*(RQ.of ((bL (j:Int) i:Int):Rat)).q)).q)).q=iP (fP e) i lead.q (y.map RQ.q) j A by
   show -(r.q/(lead.q*((bL (j:Int) i:Int):Rat)))=_;rw [iP,if_neg (by omega),hel2,hr];rw [Rat.div_def,Rat.div_def]
   grind]
  apply bP (us:=rR [.of (iP (fP e) i lead.q (y.map RQ.q) j A)]) rfl;dsimp only [aD,aC];refine kK (xs:=A.map RQ.of) (x:=.of (iP (fP e) i lead.q (y.map RQ.q) j A)) (f:=rC) rfl rfl (by rw [aP];omega) (by rw [aP];simp only [maxLen];omega) ?_;have hsnj:=hsn j;rw [hA] at hsnj;rw [hsnj];apply vn (aB) rfl;dsimp only [aD,aC];exact aR rfl ⟨⟨j+1,by omega,by omega⟩,aN.rfl,by show n-(j+1)<n-j;omega⟩
 rw [show n=j by omega];exact aK rfl
open Go Go.Proofs Tryz Ord
theorem RN (a b:List RQ):(Np a b).map RQ.q=Ic (a.map RQ.q) (b.map RQ.q):=by
 rw [Np,rO,Ic,aP,aP,Aw,List.map_map];rfl
theorem Oj (x:Rat) (a b:List RQ):ev ((Np a b).map RQ.q) x=ev (a.map RQ.q) x+ev (b.map RQ.q) x:=by rw [RN,OX]
theorem Hj (x:Rat) (p:List RQ) (c:Rat):ev ((fB (fK p c)).map RQ.q) x=ev (p.map RQ.q) x*c:=by
 rw [rO,vK,fK,List.map_map,show (RQ.q ∘ fun a:RQ=>RQ.of (a.q*c))=(fun a=>a*c) ∘ RQ.q from rfl,←List.map_map,Mp]
theorem OM (x:Rat) (a b:List RQ):∀ i,i≤b.length→ev ((mulR a b i).map RQ.q) x=ev (a.map RQ.q) x*ev ((b.map RQ.q).take i) x
 | 0,_=>by rw [mulR,List.take_zero];show (0:Rat)=_;rw [fM];grind
 | i+1,hi=>by
   obtain ⟨z,hz⟩:∃ z,b[i]? = some z:=⟨_,bI (by omega)⟩
   have hz':(b.map RQ.q)[i]? = some z.q:=by rw [cL,hz];rfl
   rw [mulR,Oj,OM x a b i (by omega),List.map_append,GJ,List.map_replicate,show RQ.q .nil=0 from rfl,LZ,List.length_replicate,Hj,lT hz,mM hz']
   grind
theorem OU (x:Rat) (q:List RQ):∀ i,ev ((qP q i).map RQ.q) x=ev (q.map RQ.q) x^i
 | 0=>by
   rw [qP,rO,vK,Rat.pow_zero];show ev [((1:Int):Rat)] x=1;rw [cF,fM];grind
 | i+1=>by
   rw [qP,OM x _ q q.length (bC _),OU x q i,Rat.pow_succ,List.take_of_length_le (by rw [aP];exact bC _)]
theorem Ll (x:Rat) (p q:List RQ):∀ i,i≤p.length→ev ((jC p q i).map RQ.q) x=ev ((p.map RQ.q).take i) (ev (q.map RQ.q) x)
 | 0,_=>by rw [jC,List.take_zero];rfl
 | i+1,hi=>by
   obtain ⟨z,hz⟩:∃ z,p[i]? = some z:=⟨_,bI (by omega)⟩
   have hz':(p.map RQ.q)[i]? = some z.q:=by rw [cL,hz];rfl
   rw [jC,Oj,Ll x p q i (by omega),Hj,OU,lT hz,mM hz']
   grind
theorem Lg (p q:List RQ):∀ i,tM ((jC p q i).map RQ.q)
 | 0=>fun a h=>by cases h
 | i+1=>by rw [jC,RN];exact CB _ _
theorem ar2 (p:List RQ) (c:RQ):(jC p [c, .of ((1:Int):Rat)] p.length).map RQ.q=eU (p.map RQ.q) c.q:=by
 refine Un (Lg _ _ _) (oD _ _) fun x=>?_;rw [Ll x p _ p.length (bC _),List.take_of_length_le (by rw [aP];exact bC _),wA]
 congr 1
 show ev [c.q,((1:Int):Rat)] x=_;rw [cF,cF,fM];grind
theorem bj8 (e:List (List RQ)) (c:RQ):fP (Bn e c)=(fP e).map (eU · c.q):=by
 rw [fP,Bn,fP,List.map_map,List.map_map];exact List.map_congr_left fun p _=>ar2 p c
end Go.Sy
