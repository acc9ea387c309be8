/- Part. -/
import Derived.Test.YtdmcadckdnnglaaGreatDoorQf
set_option linter.all false
namespace Ord
theorem Bd.inv {E T:Nat} {r:Rat} (h1:E≠0) (h:Bd E T r) (hr:r≠0):Bd r.num.natAbs E r⁻¹:=by
 have hn:r.num≠0:=fun e=>hr (Rat.num_eq_zero.1 e);have hd:=Nat.le_of_dvd (by omega) h.1;unfold Bd;rw [Rat.num_inv,Rat.den_inv,if_neg hn,Int.natAbs_mul,Int.natAbs_sign_of_ne_zero hn,Int.natAbs_natCast,Nat.one_mul];exact ⟨Nat.dvd_refl _,Nat.le_trans hd (Nat.le_mul_of_pos_right _ (by omega))⟩
theorem Bd.div {D E S T:Nat} {a r:Rat} (h0:D≠0) (h1:E≠0) (ha:Bd D S a) (h:Bd E T r) (hr:r≠0):Bd (D*r.num.natAbs) (S*E) (a/r):=by
 rw [Rat.div_def];exact ha.mul h0 (fun e=>hr (Rat.num_eq_zero.1 (by omega))) (h.inv h1 hr)
theorem Bd.aA1 {D S:Nat} {q:Rat} (h0:D≠0) (h:Bd D S q):q.num.natAbs≤S*D:=Nat.le_trans h.2 (Nat.mul_le_mul_left _ (Nat.le_of_dvd (by omega) h.1))
theorem OJ {z:Int} (h:z≠0):(z:Rat)≠0:=fun e=>h (by have:=congrArg Rat.num e;simpa using this)
section
variable {q:List (List Rat)} {a:List Rat} {m n D S X A F L:Nat}
theorem BJ {p:List Rat} {i:Nat} {x:Rat} {Y:Nat} (h0:D≠0) (h1:X≠0) (hp:∀ b∈p,Bd D S b) (ha:∀ b∈a,Bd X A b) (hF:∀ z:Int,z.natAbs≤n+m→(cF z i).natAbs≤F) (hi:i≤m) (hx:Bd (D*X) Y x) :
  ∀ k,k≤n-m+1→m≤n→Bd (D*X) (Y+k*(S*F*A)) (inner p a m n i x k)
 | 0,_,_=>by simpa [inner] using hx
 | k+1,hk,hmn=>by
   have ih:=BJ h0 h1 hp ha hF hi hx k (by omega) hmn;have hm:Y+k*(S*F*A)≤Y+(k+1)*(S*F*A):=by rw [Nat.add_mul];omega
   rw [inner];split
   ·have hpk:Bd D S (p.getD k 0):=by
     rw [List.getD_eq_getElem?_getD];cases h:p[k]? with
     | none=>exact Bd.zero
     | some b=>exact hp b (List.mem_of_getElem? h)
    have hak:Bd X A (a.getD (n-(m+k-i)) 0):=by
     rw [List.getD_eq_getElem?_getD];cases h:a[n-(m+k-i)]? with
     | none=>exact Bd.zero
     | some b=>exact ha b (List.mem_of_getElem? h)
    have hf:Bd 1 F ((cF ((n:Int)-((m:Int)+k-i)) i:Int):Rat):=Bd.int (hF _ (by omega));have h2:=(hpk.mul h0 (by omega) hf).mul (by omega) h1 hak;rw [Nat.mul_one] at h2;have h3:=ih.sub (Nat.mul_ne_zero h0 h1) h2;rw [Nat.add_mul,Nat.one_mul,←Nat.add_assoc];exact h3
   ·exact ih.le hm
theorem BU (h0:D≠0) (h1:X≠0) (hq:∀ p∈q,p.length≤L∧∀ b∈p,Bd D S b) (ha:∀ b∈a,Bd X A b) (hF:∀ i,i≤m→∀ z:Int,z.natAbs≤n+m→(cF z i).natAbs≤F) (hmn:m≤n) :
  ∀ i,i≤m+1→Bd (D*X) (i*(L*(S*F*A))) (outer q a m n i)
 | 0,_=>by simpa [outer] using Bd.zero
 | i+1,hi=>by
   have ih:=BU h0 h1 hq ha hF hmn i (by omega)
   have hp:(q.getD i []).length≤L∧∀ b∈q.getD i [],Bd D S b:=by
    rw [List.getD_eq_getElem?_getD];cases h:q[i]? with
    | none=>exact ⟨Nat.zero_le _,fun b hb=>by cases hb⟩
    | some p=>exact hq p (List.mem_of_getElem? h)
   rw [outer];refine (BJ h0 h1 hp.2 ha (hF i (by omega)) (by omega) ih _ (Nat.min_le_right _ _) hmn).le ?_;rw [Nat.add_mul i 1,Nat.one_mul];exact Nat.add_le_add_left (Nat.mul_le_mul_right _ (Nat.le_trans (Nat.min_le_left _ _) hp.1)) _
end
structure ad8 (q:List (List Rat)) (m:Nat) (lead:Rat) (y:List Rat) (D S E T L:Nat):Prop where
 d0:D≠0
 e0:E≠0
 s1:1≤S
 t1:1≤T
 l1:1≤L
 hq:∀ p∈q,p.length≤L∧∀ b∈p,Bd D S b
 hl:Bd D S lead
 l0:lead≠0
 hy:∀ b∈y,Bd E T b
 ql:q.length=m+1
def gW (m N:Nat):Nat:=(N+m+m)^m
def lJ (m N D S E:Nat):Nat:=E*gW m N+D*(S*gW m N*D)
def eH (m N D S L:Nat):Nat:=(m+1)*(L*(S*gW m N))*D
theorem Lh {m N n:Nat} (hn:n<N):∀ i,i≤m→∀ z:Int,z.natAbs≤n+m→(cF z i).natAbs≤gW m N:=fun i hi z hz=>
 Nat.le_trans (mL (N:=N+m+m) i (by omega)) (Nat.pow_le_pow_right (by omega) hi)
theorem Iu {q:List (List Rat)} {m:Nat} {lead:Rat} {y:List Rat} {D S E T L N:Nat} (C:ad8 q m lead y D S E T L) (hmN:m≤N) :
  ∀ n,n≤N→∃ X,X≠0∧X≤lJ m N D S E^n∧∀ b∈bC q m lead y n,Bd X (T*eH m N D S L^n) b:=by
 have hF1:1≤N→1≤gW m N:=fun h=>Nat.pow_pos (by omega);intro n
 induction n with
 | zero=>exact fun _=>⟨1,by omega,by simp,fun b hb=>by cases hb⟩
 | succ n ih=>
   intro hn;obtain ⟨X,hX0,hXQ,hb⟩:=ih (by omega);have hF:=Lh (m:=m) (N:=N) (n:=n) (by omega);have hF1:=hF1 (by omega);have hD:=Nat.pos_of_ne_zero C.d0;have hE:=Nat.pos_of_ne_zero C.e0;have hR1:1≤eH m N D S L:=Nat.mul_pos (Nat.mul_pos (by omega) (Nat.mul_pos C.l1 (Nat.mul_pos C.s1 hF1))) hD;have hTR:T*eH m N D S L^n≤T*eH m N D S L^(n+1):=Nat.mul_le_mul_left _ (Nat.pow_le_pow_right hR1 (by omega));have hT:T≤T*eH m N D S L^(n+1):=Nat.le_mul_of_pos_right _ (Nat.pow_pos hR1)
   have key:∃ u,u≠0∧u≤lJ m N D S E∧Bd (X*u) (T*eH m N D S L^(n+1)) (qW q m lead y n (bC q m lead y n)):=by
    unfold qW;split
    ·rename_i hnm;have hf0:((cF n n:Int):Rat)≠0:=OJ (uC (by omega));have hfz:(cF n n).natAbs≤gW m N:=hF n (by omega) n (by omega)
     have hy:Bd E T (y.getD n 0):=by
      rw [List.getD_eq_getElem?_getD];cases h:y[n]? with
      | none=>exact Bd.zero
      | some b=>exact C.hy b (List.mem_of_getElem? h)
     have h:=hy.div C.e0 (E:=1) (by omega) (Bd.int hfz) hf0;rw [Nat.mul_one,Rat.num_intCast] at h;refine ⟨E*(cF n n).natAbs,Nat.mul_ne_zero C.e0 (fun e=>hf0 (by rw [Int.natAbs_eq_zero.1 e];rfl)),?_,h.mono (Nat.dvd_mul_left _ _) hT⟩;exact Nat.le_trans (Nat.mul_le_mul_left _ hfz) (Nat.le_add_right _ _)
    ·rename_i hnm;have hmn:m≤n:=by omega
     have hf0:((cF n m:Int):Rat)≠0:=OJ (uC (by omega));have hfz:(cF n m).natAbs≤gW m N:=hF m (by omega) n (by omega);have hr:=C.hl.mul C.d0 (E:=1) (by omega) (Bd.int hfz);rw [Nat.mul_one] at hr
     have hr0:lead*((cF n m:Int):Rat)≠0:=fun e=>by
      rcases Rat.mul_eq_zero.1 e with e | e
      ·exact C.l0 e
      ·exact hf0 e
     have ho:=BU C.d0 hX0 C.hq hb hF hmn q.length (by rw [C.ql];omega);have h:=ho.div (Nat.mul_ne_zero C.d0 hX0) C.d0 hr hr0;rw [show D*X*(lead*((cF n m:Int):Rat)).num.natAbs=X*(D*(lead*((cF n m:Int):Rat)).num.natAbs) by rw [Nat.mul_comm D X,Nat.mul_assoc]] at h;refine ⟨_,Nat.mul_ne_zero C.d0 (fun e=>hr0 (Rat.num_eq_zero.1 (Int.natAbs_eq_zero.1 e))),?_,h.le ?_⟩
     ·exact Nat.le_trans (Nat.mul_le_mul_left _ (hr.aA1 C.d0)) (Nat.le_add_left _ _)
     ·rw [C.ql,Nat.pow_succ];unfold eH;generalize ((m+1)*(L*(S*gW m N))*D)^n=R;refine Nat.le_of_eq ?_
      ac_rfl
   obtain ⟨u,hu0,huQ,hu⟩:=key;refine ⟨X*u,Nat.mul_ne_zero hX0 hu0,?_,fun b hbm=>?_⟩
   ·rw [Nat.pow_succ];exact Nat.mul_le_mul hXQ huQ
   ·rw [bC] at hbm;rcases List.mem_append.1 hbm with h | h
    ·exact (hb b h).mono (Nat.dvd_mul_right _ _) hTR
    ·rw [List.mem_singleton.1 h];exact hu
def Az (m N D S E T L:Nat):Nat:=D*lJ m N D S E^N*(T*eH m N D S L^(N+1))
theorem OH {q:List (List Rat)} {m:Nat} {lead:Rat} {y:List Rat} {D S E T L N B:Nat} (C:ad8 q m lead y D S E T L) (hB:Az m N D S E T L<2^B) (hmN:m≤N:=by omega) (h1N:1≤N:=by omega):gZ B q m lead y N:=by
 have hF1:1≤gW m N:=Nat.pow_pos (by omega);have hD:=Nat.pos_of_ne_zero C.d0;have hE:=Nat.pos_of_ne_zero C.e0;have hSF:1≤S*gW m N:=Nat.mul_pos C.s1 hF1;have hR1:1≤eH m N D S L:=Nat.mul_pos (Nat.mul_pos (by omega) (Nat.mul_pos C.l1 hSF)) hD;have hQ1:1≤lJ m N D S E:=Nat.le_trans (Nat.mul_pos hE hF1) (Nat.le_add_right _ _);have hQN:1≤lJ m N D S E^N:=Nat.pow_pos hQ1;have hRN:1≤eH m N D S L^N:=Nat.pow_pos hR1
 have hRS:eH m N D S L≤eH m N D S L^(N+1):=by
  rw [Nat.pow_succ];exact Nat.le_mul_of_pos_left _ hRN
 have hEQ:E≤lJ m N D S E^N:=Nat.le_trans (Nat.le_trans (Nat.le_mul_of_pos_right _ hF1) (Nat.le_add_right _ _)) (Nat.le_trans (Nat.le_of_eq (Nat.pow_one _).symm) (Nat.pow_le_pow_right hQ1 h1N))
 have hSR:S*gW m N≤eH m N D S L:=by
  refine Nat.le_trans ?_ (Nat.le_mul_of_pos_right _ hD);refine Nat.le_trans ?_ (Nat.le_mul_of_pos_left _ (by omega));exact Nat.le_mul_of_pos_left _ C.l1
 have hS:S≤eH m N D S L:=Nat.le_trans (Nat.le_mul_of_pos_right _ hF1) hSR;have hF:gW m N≤eH m N D S L:=Nat.le_trans (Nat.le_mul_of_pos_left _ C.s1) hSR
 have big:∀ {X Y:Nat} {x:Rat},X≠0→Bd X Y x→X≤D*lJ m N D S E^N→Y≤T*eH m N D S L^(N+1)→Fit B x:=fun {X Y x} h0 h hX hY=>by
  have hV:Y*X≤Az m N D S E T L:=by
   unfold Az;rw [Nat.mul_comm (D*lJ m N D S E^N)];exact Nat.mul_le_mul hY hX
  refine h.fit h0 (Nat.lt_of_le_of_lt ?_ hB) (Nat.lt_of_le_of_lt hV hB);unfold Az;exact Nat.le_trans hX (Nat.le_mul_of_pos_right _ (Nat.mul_pos C.t1 (Nat.pow_pos hR1)))
 have hTR:eH m N D S L^(N+1)≤T*eH m N D S L^(N+1):=Nat.le_mul_of_pos_left _ C.t1;have hDQ:D≤D*lJ m N D S E^N:=Nat.le_mul_of_pos_right _ hQN;have hint:∀ {z:Int},z.natAbs≤gW m N→Fit B (z:Rat):=fun {z} hz=>big (X:=1) (by omega) (Bd.int hz) (Nat.mul_pos hD hQN) (Nat.le_trans hF (Nat.le_trans hRS hTR));have hco:=Iu C hmN
 refine ⟨big C.d0 C.hl hDQ (Nat.le_trans hS (Nat.le_trans hRS hTR)),fun x hx=>big C.e0 (C.hy x hx) (Nat.le_trans hEQ (Nat.le_mul_of_pos_left _ hD)) (Nat.le_mul_of_pos_right _ (Nat.pow_pos hR1)),fun p hp x hx=>big C.d0 ((C.hq p hp).2 x hx) hDQ (Nat.le_trans hS (Nat.le_trans hRS hTR)),
  fun n i hn hi z hz j hj=>hint (Nat.le_trans (mL (N:=N+m+m) j (by omega)) (Nat.pow_le_pow_right (by omega) (by omega))),fun n hn j hj=>hint (Nat.le_trans (mL (N:=N+m+m) j (by omega)) (Nat.pow_le_pow_right (by omega) (by omega))),fun n hn=>?_,fun n i k hn hmn hi hk=>?_⟩
 ·obtain ⟨X,h0,hX,hb⟩:=hco (n+1) (by omega);refine big h0 (hb _ (by rw [bC];simp)) ?_ ?_
  ·exact Nat.le_trans (Nat.le_trans hX (Nat.pow_le_pow_right hQ1 (by omega))) (Nat.le_mul_of_pos_left _ hD)
  ·exact Nat.mul_le_mul_left _ (Nat.pow_le_pow_right hR1 (by omega))
 ·obtain ⟨X,h0,hX,hb⟩:=hco n (by omega);have hFz:=Lh (m:=m) (N:=N) (n:=n) hn;have hil:i≤m:=by have:=C.ql;omega
  have ho:=BU C.d0 h0 C.hq hb hFz hmn i (by omega)
  have hp:(q.getD i []).length≤L∧∀ b∈q.getD i [],Bd D S b:=by
   rw [List.getD_eq_getElem?_getD];cases h:q[i]? with
   | none=>exact ⟨Nat.zero_le _,fun b hb=>by cases hb⟩
   | some p=>exact C.hq p (List.mem_of_getElem? h)
  have hin:=BJ C.d0 h0 hp.2 hb (hFz i hil) hil ho k (by omega) hmn;refine big (Nat.mul_ne_zero C.d0 h0) hin (Nat.mul_le_mul_left _ (Nat.le_trans hX (Nat.pow_le_pow_right hQ1 (by omega)))) ?_;have hkL:k≤L:=by have:=hp.1;omega
  have h1:i*(L*(S*gW m N*(T*eH m N D S L^n)))+k*(S*gW m N*(T*eH m N D S L^n))≤(m+1)*(L*(S*gW m N*(T*eH m N D S L^n))):=by
   rw [Nat.add_mul m 1,Nat.one_mul];exact Nat.add_le_add (Nat.mul_le_mul_right _ hil) (Nat.mul_le_mul_right _ hkL)
  refine Nat.le_trans h1 ?_;have h2:(m+1)*(L*(S*gW m N*(T*eH m N D S L^n)))=T*(eH m N D S L^n*((m+1)*(L*(S*gW m N)))):=by ac_rfl
  rw [h2];refine Nat.mul_le_mul_left _ ?_;refine Nat.le_trans (Nat.mul_le_mul_left _ (Nat.le_mul_of_pos_right _ hD)) ?_;show eH m N D S L^n*eH m N D S L≤_;rw [←Nat.pow_succ];exact Nat.pow_le_pow_right hR1 (by omega)
end Ord
namespace Ord
def sm (f:Nat→Rat):Nat→Rat
 | 0=>0
 | n+1=>sm f n+f n
def cv (p q:List Rat) (s:Nat):Rat:=sm (fun j=>p.getD j 0*q.getD (s-j) 0) (s+1)
end Ord
namespace Go.Sy
open Go Go.Proofs Tryz Ord
def Ut:Tr:=.ret [(W 2 0)]
def ax8:Tr:=.need (.lit 4 [[(.u 0 0),(.u 0 1),(.u 0 2),(.u 0 3)]]) (.buildSlice 167 1 #[(0,(tT 3))]) 167 false (aM 144 [(.one (.c (.sr 4 1)))] [none] [4] [167] 167 true Ut)
theorem Jw:aL prog f184 (fun _=>none) [.v (some 4)]=ax8:=by kernel_rfl
def ab2:Tr:=fP 0 0 2 0 167 14 15 (eS 6 0 (some 4) 49 16 (aM 104 [(G4 7),(G4 1)] [(some 4)] [17,18] [49,49] 49 true (.need (.lit 4 [[(.u 8 0),(.u 8 1),(.u 8 2),(.u 8 3)]]) (.buildSlice 167 1 #[(0,(tT 19))]) 167 false (.need (.app 4 64 (some 3) none (some 9)) (.call ⟨.builtin .append,#[(tT 13),(tT 20)],#[167,167]⟩) 167 false (bA .add 3 11 1 2 0 3 (.back 0 [lV 11 0, .row 10]))))))
def ab7:Tr:=.loop 0 [lK 0, .nilrow] (cV 0 0 8 167 (bM .lss 3 7 9 2 0 4 0 4 (.split (.u 5 0) ab2 (aM 144 [(.one (.c (.sr 4 3)))] [none] [22] [167] 167 true (.ret [(W 6 0)])))))
theorem SX:aL prog f186 (fun _=>none) [.v none, .v (some 4)]=ab7:=by kernel_rfl
def Vb:Tr:=fP 1 0 2 0 167 36 37 (eS 14 0 (some 4) 49 38 (aM 48 [(G4 11),(G4 15)] [(some 4)] [35,39] [49,49] 49 true (.need (.lit 4 [[(.u 16 0),(.u 16 1),(.u 16 2),(.u 16 3)]]) (.buildSlice 167 1 #[(0,(tT 42))]) 167 false (.need (.app 4 64 (some 3) none (some 17)) (.call ⟨.builtin .append,#[(tT 41),(tT 43)],#[167,167]⟩) 167 false (bA .add 3 18 1 2 0 3 (.back 0 [lV 19 0, .row 18]))))))
def Nl:Tr:=.need (.app 4 64 (some 3) none (some 14)) (.call ⟨.builtin .append,#[(tT 41),(tT 43)],#[167,167]⟩) 167 false (bA .add 3 18 1 2 0 3 (.back 0 [lV 16 0, .row 15]))
def au2:Tr:=fP 0 0 2 0 167 26 27 (eS 9 0 (some 4) 49 28 (aM 48 [(G4 6),(G4 10)] [(some 4)] [25,29] [49,49] 49 true (cV 1 0 32 167 (bM .lss 3 31 33 2 0 12 0 4 (.split (.u 13 0) Vb (.need (.lit 4 [[(.u 11 0),(.u 11 1),(.u 11 2),(.u 11 3)]]) (.buildSlice 167 1 #[(0,(tT 42))]) 167 false Nl))))))
def Ng:Tr:=.back 0 [lV 13 0, .row 12]
def XW:Tr:=cV 1 0 32 167 (bM .lss 3 31 33 2 0 9 0 4 (.split (.u 10 0) (fP 1 0 2 0 167 36 37 (eS 11 0 (some 4) 49 38 (aM 48 [(G4 6),(G4 12)] [(some 4)] [35,39] [49,49] 49 true (.need (.lit 4 [[(.u 13 0),(.u 13 1),(.u 13 2),(.u 13 3)]]) (.buildSlice 167 1 #[(0,(tT 42))]) 167 false Nl)))) (.need (.lit 4 [[(.u 6 0),(.u 6 1),(.u 6 2),(.u 6 3)]]) (.buildSlice 167 1 #[(0,(tT 42))]) 167 false (.need (.app 4 64 (some 3) none (some 11)) (.call ⟨.builtin .append,#[(tT 41),(tT 43)],#[167,167]⟩) 167 false (bA .add 3 18 1 2 0 3 Ng)))))
def VB:Tr:=fP 1 0 2 0 167 36 37 (eS 16 0 (some 4) 49 38 (aM 48 [(G4 13),(G4 17)] [(some 4)] [35,39] [49,49] 49 true (.need (.lit 4 [[(.u 18 0),(.u 18 1),(.u 18 2),(.u 18 3)]]) (.buildSlice 167 1 #[(0,(tT 42))]) 167 false (.need (.app 4 64 (some 3) none (some 19)) (.call ⟨.builtin .append,#[(tT 41),(tT 43)],#[167,167]⟩) 167 false (bA .add 3 18 1 2 0 3 (.back 0 [lV 21 0, .row 20]))))))
def NV:Tr:=.need (.app 4 64 (some 3) none (some 16)) (.call ⟨.builtin .append,#[(tT 41),(tT 43)],#[167,167]⟩) 167 false (bA .add 3 18 1 2 0 3 (.back 0 [lV 18 0, .row 17]))
def YB:Tr:=fP 0 0 2 0 167 26 27 (eS 11 0 (some 4) 49 28 (aM 48 [(G4 8),(G4 12)] [(some 4)] [25,29] [49,49] 49 true (cV 1 0 32 167 (bM .lss 3 31 33 2 0 14 0 4 (.split (.u 15 0) VB (.need (.lit 4 [[(.u 13 0),(.u 13 1),(.u 13 2),(.u 13 3)]]) (.buildSlice 167 1 #[(0,(tT 42))]) 167 false NV))))))
def YQ:Tr:=cV 1 0 32 167 (bM .lss 3 31 33 2 0 11 0 4 (.split (.u 12 0) (fP 1 0 2 0 167 36 37 (eS 13 0 (some 4) 49 38 (aM 48 [(G4 8),(G4 14)] [(some 4)] [35,39] [49,49] 49 true (.need (.lit 4 [[(.u 15 0),(.u 15 1),(.u 15 2),(.u 15 3)]]) (.buildSlice 167 1 #[(0,(tT 42))]) 167 false NV)))) (.need (.lit 4 [[(.u 8 0),(.u 8 1),(.u 8 2),(.u 8 3)]]) (.buildSlice 167 1 #[(0,(tT 42))]) 167 false (.need (.app 4 64 (some 3) none (some 13)) (.call ⟨.builtin .append,#[(tT 41),(tT 43)],#[167,167]⟩) 167 false (bA .add 3 18 1 2 0 3 (.back 0 [lV 15 0, .row 14]))))))
def WI:Tr:=cV 1 0 14 167 (bM .lss 3 13 15 2 0 6 0 4 (.split (.u 7 0) (.need (.call 50 [(WK 0)] [(some 4)]) (.call ⟨.value (.func 50),#[(.const (I3 0))],#[2]⟩) 49 true (cV 0 0 22 167 (bM .lss 3 21 23 2 0 9 0 4 (.split (.u 10 0) YB YQ)))) (aM 144 [(.one (.c (.sr 4 3)))] [none] [45] [167] 167 true (.ret [(W 8 0)]))))
def am6:Tr:=cV 0 0 9 167 (bM .lss 3 8 10 2 0 4 0 4 (.split (.u 5 0) (.need (.call 50 [(WK 0)] [(some 4)]) (.call ⟨.value (.func 50),#[(.const (I3 0))],#[2]⟩) 49 true (cV 0 0 22 167 (bM .lss 3 21 23 2 0 7 0 4 (.split (.u 8 0) au2 XW)))) WI))
def al7:Tr:=.loop 0 [lK 0, .nilrow] am6
theorem ah1:aL prog f185 (fun _=>none) [.v none, .v none]=al7:=by kernel_rfl
def ax5:Tr:=fP 1 0 3 0 167 17 18 (eS 7 0 (some 4) 49 19 (aM 186 [(W 0 0),(G4 8)] [none] [16,20] [167,49] 167 false (.need (.app 4 64 (some 6) (some (.u 9 0)) none) (.call ⟨.builtin .append,#[(tT 15),(tT 21)],#[167,167]⟩) 167 false (aM 185 [(W 2 0),(.one (.c (.sr 4 10)))] [none] [13,22] [167,167] 167 true (bA .add 3 11 1 3 0 3 (.back 0 [lV 11 0,lV 12 0]))))))
def av4:Tr:=.loop 0 [lN,lK 0] (cV 1 0 8 167 (bM .lss 3 7 9 3 0 4 0 4 (.split (.u 5 0) (.need (.make [(.int .i64 0),(.slice none 0 0),(.int .i64 0),(.slice none 0 0)] 64 (.u 3 0) (.u 3 0)) (.makeSlice 167 (tT 14) (tT 14)) 167 false ax5) Ut)))
theorem aw4:aL prog f187 (fun _=>none) [.v none, .v none]=av4:=by kernel_rfl
def ab6:Tr:=fP 0 0 6 0 167 18 19 (eS 9 0 (some 4) 49 20 (aM 186 [(W 5 0),(G4 10)] [none] [17,21] [167,49] 167 true (aM 185 [(W 4 0),(W 11 0)] [none] [16,22] [167,167] 167 true (aM 187 [(W 5 0),(W 1 0)] [none] [24,25] [167,167] 167 true (bA .add 3 14 1 6 0 3 (.back 0 [lV 12 0,lV 13 0,lV 14 0]))))))
def ad7:Tr:=.need (.call 50 [(WK 1)] [(some 4)]) (.call ⟨.value (.func 50),#[(.const (I3 1))],#[2]⟩) 49 true (aM 184 [(G4 2)] [none] [8] [49] 167 true (.loop 0 [lN,lV 3 0,lK 0] (cV 0 0 11 167 (bM .lss 3 10 12 6 0 7 0 4 (.split (.u 8 0) ab6 (.ret [(W 4 0)]))))))
theorem KX:aL prog f106 (fun _=>none) [.v none, .v none]=ad7:=by kernel_rfl
def eV (p:List RQ) (c:Rat):List RQ:=p.map fun a=>.of (a.q*c)
theorem fH (p:List RQ) (c:Rat):(eV p c).length=p.length:=aP _
theorem Ie (a:RQ):aN prog 184 [(lI a:aF)] (.ret [.one (sR (eL [a]))]):=by
 refine cM func184 Jw ?_;apply bL (us:=rR [a]) rfl;dsimp only [aA,aB];apply aC (uU [a] (by simp)) rfl;exact aK rfl
theorem JN (p:List RQ) (c:RQ) (A B:Nat) (hp:∀ x∈p,Fit A x.q) (hc:Fit B c.q) (hB:A+B≤4294967296:=by omega) (hs:p.length<1099511627776:=by omega):aN prog 186 [(.one (sR p):aF),(lI c:aF)] (.ret [.one (sR (eL (eV p c.q)))]):=by
 refine cM func186 SX ?_;refine bF {i:Nat // i≤p.length} (fun g=>[.one (.int .i64 g.1), .rows (rR (eV (p.take g.1) c.q))]) (fun g=>p.length-g.1) ⟨0,bR _⟩ aO.rfl (fun _=>rfl) ?_;rintro ⟨i,hi⟩;dsimp only [aA,aB] at hi ⊢;apply vn (aQ fS (aP _)) rfl;dsimp only [aA,aB];apply vn bE rfl;dsimp only [aA,aB];refine vs _ rfl ?_ ?_<;>intro h3
 ·obtain ⟨x,hx⟩:∃ x,p[i]? = some x:=⟨_,bI (by omega)⟩
  apply vn (aW fS hx) rfl;dsimp only [aA,aB];apply vn (bO Cw (by decide) (by simp) (.inl rfl)) rfl;dsimp only [aA,aB];apply aC (tZ x c A B (hp x (cS hx)) hc hB) rfl;dsimp only [aA,aB];apply bL (us:=rR [.of (x.q*c.q)]) rfl;dsimp only [aA,aB];refine oV (xs:=eV (p.take i) c.q) (x:=.of (x.q*c.q)) (f:=rC) rfl rfl (by rw [fH,List.length_take];omega) (by rw [fH,List.length_take];simp only [maxLen];omega) ?_;rw [show eV (p.take i) c.q ++ [.of (x.q*c.q)]=eV (p.take (i+1)) c.q from lU (f:=fun a:RQ=>RQ.of (a.q*c.q)) hx];dsimp only [aA,aB];apply vn (aD) rfl;dsimp only [aA,aB];exact aR rfl ⟨⟨i+1,by omega⟩,aO.rfl,by show p.length-(i+1)<p.length-i;omega⟩
 rw [show i=p.length by omega,List.take_length];apply aC (uU (eV p c.q) (by rw [fH];exact hs)) rfl;exact aK rfl
def atR (p:List RQ) (i:Nat):Rat:=((p.map RQ.q).getD i 0)
theorem kR {p:List RQ} {i:Nat} {x:RQ} (h:p[i]? = some x):atR p i=x.q:=by
 rw [atR,eX,cU,h];rfl
theorem HP {p:List RQ} {i:Nat} (h:p.length≤i:=by omega):atR p i=0:=by
 rw [atR,eX,List.getElem?_eq_none (by simpa using h)];rfl
def zS (a b:List RQ) (i:Nat):List RQ:=(List.range i).map fun k=>.of (atR a k+atR b k)
theorem tO (a b:List RQ) (i:Nat):(zS a b i).length=i:=by simp [zS]
theorem zZ (a b:List RQ) (i:Nat):zS a b i ++ [.of (atR a i+atR b i)]=zS a b (i+1):=by simp [zS,List.range_succ]
theorem Tu (a b:List RQ) (A B:Nat) (ha:∀ x∈a,Fit A x.q) (hb:∀ x∈b,Fit B x.q) (hs2:b.length<1099511627776:=by omega) (hB:2*A+2*B≤1073741824:=by omega) (h64:64≤A:=by omega) (h64':64≤B:=by omega) (hs:a.length<1099511627776:=by omega):aN prog 185 [(.one (sR a):aF),(.one (sR b):aF)] (.ret [.one (sR (eL (zS a b (max a.length b.length))))]):=by
 refine cM func185 ah1 ?_;have h0:Fit 64 (RQ.of ((0:Int):Rat)).q:=Fit.zero (by omega);refine bF {i:Nat // i≤max a.length b.length} (fun g=>[.one (.int .i64 g.1), .rows (rR (zS a b g.1))]) (fun g=>max a.length b.length-g.1) ⟨0,bR _⟩ aO.rfl (fun _=>rfl) ?_;rintro ⟨i,hi⟩;dsimp only [aA,aB] at hi ⊢;have hsl:=tO a b i;apply vn (aQ fS (aP _)) rfl;dsimp only [aA,aB];apply vn bE rfl;dsimp only [aA,aB];refine vs _ rfl ?_ ?_<;>intro h3
 ·apply aC (lD 0) rfl;dsimp only [aA,aB];apply vn (aQ fS (aP _)) rfl;dsimp only [aA,aB];apply vn bE rfl;dsimp only [aA,aB];refine vs _ rfl ?_ ?_<;>intro h7
  ·obtain ⟨x,hx⟩:∃ x,a[i]? = some x:=⟨_,bI (by omega)⟩
   have hxA:=ha x (cS hx);apply vn (aW fS hx) rfl;dsimp only [aA,aB];apply vn (bO Cw (by decide) (by simp) (.inl rfl)) rfl;dsimp only [aA,aB];apply aC (tY (.of ((0:Int):Rat)) x 64 A h0 hxA) rfl;dsimp only [aA,aB];apply vn (aQ fS (aP _)) rfl;dsimp only [aA,aB];apply vn bE rfl;dsimp only [aA,aB];refine vs _ rfl ?_ ?_<;>intro h13
   ·obtain ⟨y,hy⟩:∃ y,b[i]? = some y:=⟨_,bI (by omega)⟩
    apply vn (aW fS hy) rfl;dsimp only [aA,aB];apply vn (bO Cw (by decide) (by simp) (.inl rfl)) rfl;dsimp only [aA,aB];apply aC (tY (.of ((RQ.of ((0:Int):Rat)).q+x.q)) y (64+A+1) B (h0.add hxA) (hb y (cS hy))) rfl;rw [show (RQ.of ((RQ.of ((0:Int):Rat)).q+x.q)).q+y.q=atR a i+atR b i by rw [kR hx,kR hy];show ((0:Int):Rat)+x.q+y.q=_;grind];dsimp only [aA,aB];apply bL (us:=rR [.of (atR a i+atR b i)]) rfl;dsimp only [aA,aB];refine oV (xs:=zS a b i) (x:=.of (atR a i+atR b i)) (f:=rC) rfl rfl (by omega) (by simp only [maxLen];omega) ?_;rw [zZ];dsimp only [aA,aB];apply vn (aD) rfl;dsimp only [aA,aB];exact aR rfl ⟨⟨i+1,by omega⟩,aO.rfl,by show max a.length b.length-(i+1)<max a.length b.length-i;omega⟩
   rw [show (RQ.of ((0:Int):Rat)).q+x.q=atR a i+atR b i by rw [kR hx,HP (p:=b)];show ((0:Int):Rat)+x.q=_;grind];apply bL (us:=rR [.of (atR a i+atR b i)]) rfl;dsimp only [aA,aB];refine oV (xs:=zS a b i) (x:=.of (atR a i+atR b i)) (f:=rC) rfl rfl (by omega) (by simp only [maxLen];omega) ?_;rw [zZ];dsimp only [aA,aB];apply vn (aD) rfl;dsimp only [aA,aB];exact aR rfl ⟨⟨i+1,by omega⟩,aO.rfl,by show max a.length b.length-(i+1)<max a.length b.length-i;omega⟩
  exfalso;omega
 apply vn (aQ fS (aP _)) rfl;dsimp only [aA,aB];apply vn bE rfl;dsimp only [aA,aB];refine vs _ rfl ?_ ?_<;>intro h41
 ·apply aC (lD 0) rfl;dsimp only [aA,aB];apply vn (aQ fS (aP _)) rfl;dsimp only [aA,aB];apply vn bE rfl;dsimp only [aA,aB];refine vs _ rfl ?_ ?_<;>intro h45
  ·exfalso;omega
  apply vn (aQ fS (aP _)) rfl;dsimp only [aA,aB];apply vn bE rfl;dsimp only [aA,aB];refine vs _ rfl ?_ ?_<;>intro h65
  ·obtain ⟨y,hy⟩:∃ y,b[i]? = some y:=⟨_,bI (by omega)⟩
   apply vn (aW fS hy) rfl;dsimp only [aA,aB];apply vn (bO Cw (by decide) (by simp) (.inl rfl)) rfl;dsimp only [aA,aB];apply aC (tY (.of ((0:Int):Rat)) y 64 B h0 (hb y (cS hy))) rfl;rw [show (RQ.of ((0:Int):Rat)).q+y.q=atR a i+atR b i by rw [kR hy,HP (p:=a)];show ((0:Int):Rat)+y.q=_;grind];dsimp only [aA,aB];apply bL (us:=rR [.of (atR a i+atR b i)]) rfl;dsimp only [aA,aB];refine oV (xs:=zS a b i) (x:=.of (atR a i+atR b i)) (f:=rC) rfl rfl (by omega) (by simp only [maxLen];omega) ?_;rw [zZ];dsimp only [aA,aB];apply vn (aD) rfl;dsimp only [aA,aB];exact aR rfl ⟨⟨i+1,by omega⟩,aO.rfl,by show max a.length b.length-(i+1)<max a.length b.length-i;omega⟩
  exfalso;omega
 rw [show i=max a.length b.length by omega];apply aC (uU (zS a b (max a.length b.length)) (by rw [tO];omega)) rfl;exact aK rfl
def LD (a b:List RQ):List RQ:=eL (zS a b (max a.length b.length))
theorem qG (p:List RQ):(eL p).length≤p.length:=by rw [xC];exact gV p
theorem Nx (a b:List RQ):(LD a b).length≤max a.length b.length:=Nat.le_trans (qG _) (by rw [tO];exact bB _)
def mulR (a b:List RQ):Nat→List RQ
 | 0=>[]
 | i+1=>LD (mulR a b i) (List.replicate i .nil++eL (eV a (atR b i)))
theorem Gq (a b:List RQ):∀ i,(mulR a b i).length≤a.length+i
 | 0=>bR _
 | i+1=>by
   rw [mulR];refine Nat.le_trans (Nx _ _) ?_;have h1:=Gq a b i;have h2:=qG (eV a (atR b i));rw [fH] at h2;rw [fE,List.length_replicate];omega
theorem ap9 (n:Nat) (us:List RQ):aU (aU aE.Sub) (List.replicate n z4++rR us) (rR (List.replicate n .nil++us)):=by
 rw [show rR (List.replicate n RQ.nil++us)=List.replicate n (rC .nil)++rR us by rw [rR,List.map_append,List.map_replicate]];exact aU.append (tL yI n) (aU.mG (aU.mG aE.Sub.refl) _)
set_option maxHeartbeats 1000000 in
theorem aB1 (a b:List RQ) (A B F:Nat) (ha:∀ x∈a,Fit A x.q) (hb:∀ x∈b,Fit B x.q) (hF:∀ i,i≤b.length→∀ x∈mulR a b i,Fit F x.q) (hs2:b.length≤1073741824) (hB:2*F+2*(A+B)≤1073741824:=by omega) (h64:64≤A:=by omega) (h64':64≤F:=by omega) (hs:a.length≤1073741824:=by omega):aN prog 187 [(.one (sR a):aF),(.one (sR b):aF)] (.ret [.one (sR (mulR a b b.length))]):=by
 refine cM func187 aw4 ?_;refine bF {i:Nat // i≤b.length} (fun g=>[.one (sR (mulR a b g.1)), .one (.int .i64 g.1)]) (fun g=>b.length-g.1) ⟨0,bR _⟩ ⟨aE.Sub.nil,aF.Sub.same,trivial⟩ (fun _=>rfl) ?_;rintro ⟨i,hi⟩;dsimp only [aA,aB] at hi ⊢;apply vn (aQ fS (aP _)) rfl;dsimp only [aA,aB];apply vn bE rfl;dsimp only [aA,aB];refine vs _ rfl ?_ ?_<;>intro h3
 ·obtain ⟨x,hx⟩:∃ x,b[i]? = some x:=⟨_,bI (by omega)⟩
  have hat:=kR hx;have hml:=Gq a b i;have htl:=qG (eV a x.q);rw [fH] at htl;have hlen:(List.replicate i z4++rR (eL (eV a x.q))).length=i+(eL (eV a x.q)).length:=by rw [fE,List.length_replicate,aP]
  refine tR (n:=i) (m:=i) (us:=List.replicate i z4) rfl rfl rfl (bB _) (by omega) (by simp only [maxLen];omega) ?_;dsimp only [aA,aB];apply vn (aW fS hx) rfl;dsimp only [aA,aB];apply vn (bO Cw (by decide) (by simp) (.inl rfl)) rfl;dsimp only [aA,aB];apply aC (JN a x A B ha (hb x (cS hx))) rfl;dsimp only [aA,aB];refine rP (ts:=List.replicate i z4) (us:=rR (eL (eV a x.q))) (vs:=List.replicate i z4++rR (eL (eV a x.q))) rfl (.inr aE.Sub.same) rfl (by rw [hlen];omega) (by rw [hlen];simp only [maxLen];omega) ?_;dsimp only [aA,aB];refine Gj (show aO _ [.one (sR (mulR a b i)), .one (sR (List.replicate i .nil++eL (eV a x.q)))] from ⟨aF.Sub.same,aE.Sub.slice (ap9 i _),trivial⟩) (Tu _ _ F (A+B) (hF i hi) (fun y hy=>?_) (by rw [fE,List.length_replicate];omega)) rfl ?_
  ·rcases List.mem_append.1 hy with h | h
   ·rw [(List.mem_replicate.1 h).2];exact Fit.zero (by omega)
   ·obtain ⟨u,hu,rfl⟩:=gT.1 (List.mem_of_mem_take h);exact (ha u hu).mul (hb x (cS hx))
  dsimp only [aA,aB];apply vn (aD) rfl;dsimp only [aA,aB];exact aR rfl ⟨⟨i+1,by omega⟩,aO.of_eq (by dsimp only;rw [mulR,hat];rfl),by show b.length-(i+1)<b.length-i;omega⟩
 rw [show b.length=i by omega];exact aK rfl
def pZ (q:List RQ):Nat→List RQ
 | 0=>eL [.of ((1:Int):Rat)]
 | i+1=>mulR (pZ q i) q q.length
theorem GN (q:List RQ):∀ i,(pZ q i).length≤1+i*q.length
 | 0=>by rw [pZ,Nat.zero_mul];exact qG _
 | i+1=>by
   have h1:=Gq (pZ q i) q q.length;have h2:=GN q i;rw [pZ,Nat.add_mul];omega
def iC (p q:List RQ):Nat→List RQ
 | 0=>[]
 | i+1=>LD (iC p q i) (eL (eV (pZ q i) (atR p i)))
theorem Dr (p q:List RQ):∀ i,(iC p q i).length≤1+i*q.length
 | 0=>bR _
 | i+1=>by
   have h1:=Dr p q i;have h2:=GN q i;have h3:=qG (eV (pZ q i) (atR p i));rw [fH] at h3;rw [iC,Nat.add_mul];refine Nat.le_trans (Nx _ _) ?_;omega
structure JQ (F:Nat) (p q:List RQ):Prop where
 fp:∀ x∈p,Fit F x.q
 fq:∀ x∈q,Fit F x.q
 fw:∀ i,i≤p.length→∀ x∈pZ q i,Fit F x.q
 fm:∀ i,i≤p.length→∀ j,j≤q.length→∀ x∈mulR (pZ q i) q j,Fit F x.q
 fc:∀ i,i≤p.length→∀ x∈iC p q i,Fit F x.q
set_option maxHeartbeats 1000000 in
theorem KE (p q:List RQ) (F:Nat) (C:JQ F p q) (hF:F≤100000000) (h64:64≤F) (hl:1+(p.length+1)*q.length≤1073741824) (hs:p.length≤1073741824):aN prog 106 [(.one (sR p):aF),(.one (sR q):aF)] (.ret [.one (sR (iC p q p.length))]):=by
 refine cM func106 KX ?_;have hql:q.length≤1073741824:=by rw [Nat.add_mul] at hl;omega
 apply aC (lD 1) rfl;dsimp only [aA,aB];apply aC (Ie (.of ((1:Int):Rat))) rfl;dsimp only [aA,aB];refine bF {i:Nat // i≤p.length} (fun g=>[.one (sR (iC p q g.1)), .one (sR (pZ q g.1)), .one (.int .i64 g.1)]) (fun g=>p.length-g.1) ⟨0,bR _⟩ ⟨aE.Sub.nil,aF.Sub.same,aF.Sub.same,trivial⟩ (fun _=>rfl) ?_;rintro ⟨i,hi⟩;dsimp only [aA,aB] at hi ⊢;apply vn (aQ fS (aP _)) rfl;dsimp only [aA,aB];apply vn bE rfl;dsimp only [aA,aB];refine vs _ rfl ?_ ?_<;>intro h5
 ·obtain ⟨x,hx⟩:∃ x,p[i]? = some x:=⟨_,bI (by omega)⟩
  have hat:=kR hx;have hxF:=C.fp x (cS hx);have hw:=GN q i;have hcl:=Dr p q i;have hil:i*q.length≤(p.length+1)*q.length:=Nat.mul_le_mul_right _ (by omega);have htl:=qG (eV (pZ q i) x.q);rw [fH] at htl;apply vn (aW fS hx) rfl;dsimp only [aA,aB];apply vn (bO Cw (by decide) (by simp) (.inl rfl)) rfl;dsimp only [aA,aB];apply aC (JN (pZ q i) x F F (C.fw i hi) hxF) rfl;dsimp only [aA,aB]
  refine aC (Tu (iC p q i) (eL (eV (pZ q i) x.q)) F (F+F) (C.fc i hi) (fun y hy=>by
   obtain ⟨u,hu,rfl⟩:=gT.1 (List.mem_of_mem_take hy);exact (C.fw i hi u hu).mul hxF)) rfl ?_
  dsimp only [aA,aB];apply aC (aB1 (pZ q i) q F F F (C.fw i hi) C.fq (C.fm i hi) hql) rfl;dsimp only [aA,aB];apply vn (aD) rfl;dsimp only [aA,aB];exact aR rfl ⟨⟨i+1,by omega⟩,aO.of_eq (by dsimp only;rw [iC,pZ,hat];rfl),by show p.length-(i+1)<p.length-i;omega⟩
 rw [show p.length=i by omega];exact aK rfl
open Go Go.Proofs Tryz Ord
def aD2:Tr:=eS 6 0 none 167 16 (.need (.call 50 [(WK 1)] [(some 4)]) (.call ⟨.value (.func 50),#[(.const (I3 1))],#[2]⟩) 49 false (.need (.lit 4 [[(.u 1 0),(.u 1 1),(.u 1 2),(.u 1 3)],[(.u 8 0),(.u 8 1),(.u 8 2),(.u 8 3)]]) (.buildSlice 167 2 #[(0,(tT 18)),(1,(tT 19))]) 167 false (aM 106 [(W 7 0),(.one (.c (.sr 4 9)))] [none] [17,20] [167,167] 167 true (.need (.lit 1 [[(.u 10 0)]]) (.buildSlice 44 1 #[(0,(tT 21))]) 44 false (.need (.app 1 24 (some 3) none (some 11)) (.call ⟨.builtin .append,#[(tT 13),(tT 22)],#[44,44]⟩) 44 false (bA .add 3 11 1 2 0 3 Ng))))))
def au6:Tr:=.loop 0 [lK 0, .nilrow] (cV 0 0 8 44 (bM .lss 3 7 9 2 0 4 0 4 (.split (.u 5 0) (fP 0 0 2 0 44 14 15 aD2) (.ret [(.one (.c (.sr 1 3)))]))))
theorem TM:aL prog f125 (fun _=>none) [.v none, .v (some 4)]=au6:=by kernel_rfl
def NK (e:List (List RQ)) (c:RQ):List (List RQ):=e.map fun p=>iC p [c, .of ((1:Int):Rat)] p.length
theorem QB (e:List (List RQ)) (c:RQ) (F:Nat) (C:∀ p∈e,JQ F p [c, .of ((1:Int):Rat)]∧p.length≤1048576) (hF:F≤100000000) (h64:64≤F) (hs:e.length<1048576:=by omega):aN prog 125 [(.one (eR e):aF),(lI c:aF)] (.ret [.one (eR (NK e c))]):=by
 refine cM func125 TM ?_;refine bF {i:Nat // i≤e.length} (fun g=>[.one (.int .i64 g.1), .rows ((NK (e.take g.1) c).map cR)]) (fun g=>e.length-g.1) ⟨0,bR _⟩ aO.rfl (fun _=>rfl) ?_;rintro ⟨i,hi⟩;dsimp only [aA,aB] at hi ⊢;have hsl:(NK (e.take i) c).length=i:=by rw [NK,aP,List.length_take];omega
 apply vn (aQ zL (aP _)) rfl;dsimp only [aA,aB];apply vn bE rfl;dsimp only [aA,aB];refine vs _ rfl ?_ ?_<;>intro h3
 ·obtain ⟨p,hp⟩:∃ p,e[i]? = some p:=⟨_,bI (by omega)⟩
  obtain ⟨hC,hl⟩:=C p (cS hp);apply vn (aW zL hp) rfl;dsimp only [aA,aB];apply vn (bG xF) rfl;dsimp only [aA,aB];apply aC (lD 1) rfl;dsimp only [aA,aB];apply bL (us:=rR [c, .of ((1:Int):Rat)]) rfl;dsimp only [aA,aB];apply aC (KE p [c, .of ((1:Int):Rat)] F hC hF h64 (by simp only [List.length_cons,List.length_nil];omega) (by omega)) rfl;dsimp only [aA,aB];apply bL (us:=[cR (iC p [c, .of ((1:Int):Rat)] p.length)]) rfl;dsimp only [aA,aB];refine oV (xs:=NK (e.take i) c) (x:=iC p [c, .of ((1:Int):Rat)] p.length) (f:=cR) rfl rfl (by omega) (by simp only [maxLen];omega) ?_;rw [show NK (e.take i) c ++ [iC p [c, .of ((1:Int):Rat)] p.length]=NK (e.take (i+1)) c from lU (f:=fun p:List RQ=>iC p [c, .of ((1:Int):Rat)] p.length) hp];dsimp only [aA,aB];apply vn (aD) rfl;dsimp only [aA,aB];exact aR rfl ⟨⟨i+1,by omega⟩,aO.rfl,by show e.length-(i+1)<e.length-i;omega⟩
 rw [show i=e.length by omega,List.take_length];exact aK rfl
theorem Hj {B:Nat} {q:List (List Rat)} {m:Nat} {lead:Rat} {y:List Rat} {N:Nat} (C:gZ B q m lead y N):∀ {n:Nat},n≤N→∀ {b:Rat},b∈bC q m lead y n→Fit B b
 | 0,_,b,hb=>by cases hb
 | n+1,hn,b,hb=>by
   rw [bC] at hb;rcases List.mem_append.1 hb with h | h
   ·exact Hj C (by omega) h
   ·rw [List.mem_singleton.1 h];exact C.fa n (by omega)
open Go Go.Proofs Tryz Ord
theorem RU (a b:List RQ):(LD a b).map RQ.q=GJ (a.map RQ.q) (b.map RQ.q):=by
 rw [LD,qQ,GJ,aP,aP,zS,List.map_map];rfl
theorem Nj (x:Rat) (a b:List RQ):ev ((LD a b).map RQ.q) x=ev (a.map RQ.q) x+ev (b.map RQ.q) x:=by rw [RU,Mm]
theorem FF (x:Rat) (p:List RQ) (c:Rat):ev ((eL (eV p c)).map RQ.q) x=ev (p.map RQ.q) x*c:=by
 rw [qQ,uX,eV,List.map_map,show (RQ.q ∘ fun a:RQ=>RQ.of (a.q*c))=(fun a=>a*c) ∘ RQ.q from rfl,←List.map_map,Me]
theorem Mq (x:Rat) (a b:List RQ):∀ i,i≤b.length→ev ((mulR a b i).map RQ.q) x=ev (a.map RQ.q) x*ev ((b.map RQ.q).take i) x
 | 0,_=>by rw [mulR,List.take_zero];show (0:Rat)=_;rw [eM];grind
 | i+1,hi=>by
   obtain ⟨z,hz⟩:∃ z,b[i]? = some z:=⟨_,bI (by omega)⟩
   have hz':(b.map RQ.q)[i]? = some z.q:=by rw [cU,hz];rfl
   rw [mulR,Nj,Mq x a b i (by omega),List.map_append,Fc,List.map_replicate,show RQ.q .nil=0 from rfl,Kt,List.length_replicate,FF,kR hz,jK hz']
   grind
theorem Mz (x:Rat) (q:List RQ):∀ i,ev ((pZ q i).map RQ.q) x=ev (q.map RQ.q) x^i
 | 0=>by
   rw [pZ,qQ,uX,Rat.pow_zero];show ev [((1:Int):Rat)] x=1;rw [bV,eM];grind
 | i+1=>by
   rw [pZ,Mq x _ q q.length (bB _),Mz x q i,Rat.pow_succ,List.take_of_length_le (by rw [aP];exact bB _)]
theorem Jz (x:Rat) (p q:List RQ):∀ i,i≤p.length→ev ((iC p q i).map RQ.q) x=ev ((p.map RQ.q).take i) (ev (q.map RQ.q) x)
 | 0,_=>by rw [iC,List.take_zero];rfl
 | i+1,hi=>by
   obtain ⟨z,hz⟩:∃ z,p[i]? = some z:=⟨_,bI (by omega)⟩
   have hz':(p.map RQ.q)[i]? = some z.q:=by rw [cU,hz];rfl
   rw [iC,Nj,Jz x p q i (by omega),FF,Mz,kR hz,jK hz']
   grind
theorem JM (p q:List RQ):∀ i,sA ((iC p q i).map RQ.q)
 | 0=>fun a h=>by cases h
 | i+1=>by rw [iC,RU];exact Da _ _
theorem Xn (p:List RQ) (c:RQ):(iC p [c, .of ((1:Int):Rat)] p.length).map RQ.q=dU (p.map RQ.q) c.q:=by
 refine Ud (JM _ _ _) (mE _ _) fun x=>?_;rw [Jz x p _ p.length (bB _),List.take_of_length_le (by rw [aP];exact bB _),qJ]
 congr 1
 show ev [c.q,((1:Int):Rat)] x=_;rw [bV,bV,eM];grind
theorem aR6 (e:List (List RQ)) (c:RQ):uY (NK e c)=(uY e).map (dU · c.q):=by
 rw [uY,NK,uY,List.map_map,List.map_map];exact List.map_congr_left fun p _=>Xn p c
end Go.Sy
