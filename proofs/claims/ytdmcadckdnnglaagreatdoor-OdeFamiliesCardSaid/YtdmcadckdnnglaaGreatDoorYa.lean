/- The reach of a small equation: numbers. Reach, Tail of a small equation. The numbers of a small equation. Small equations: the reference's tests. Polynomials of families: scaled, subtracted; the next members. The next members of Legendre's and of Hermite's family. Members of families; they are the coefficients, up to a factor.
-/
import Derived.Test.YtdmcadckdnnglaaGreatDoorVb
import Derived.Test.YtdmcadckdnnglaaGreatDoorWb
set_option linter.unusedVariables false
set_option linter.unusedSimpArgs false
namespace Go.Sy
open Go Go.Proofs Tryz Ord
theorem _root_.Ord.Bd.abs {D S:Nat} {q:Rat} (h:Bd D S q):Bd D S q.abs:=by
 obtain ⟨h1,h2⟩:=qK q;exact ⟨by rw [h2];exact h.1,by rw [h1,h2];simpa using h.2⟩
section
variable {D S L:Nat} {fP:Rat}
end
open Go Go.Proofs Tryz Ord
structure TF (E:List (List Rat)) (X:Rat):Prop where
 ok:uE E=true
 reg:nR E X=true
theorem TF.facts {E:List (List Rat)} {X:Rat} (h:TF E X):2≤E.length∧E.length≤5∧eD E X≠0∧cP (E.getD (E.length-1) []) X ≠ []:=by
 have:=qQ (e:=E) (c:=X) (y:=List.replicate (E.length-1) 0) (by unfold okF;rw [h.ok,h.reg];simp);exact ⟨this.1,this.2.1,this.2.2.2.1,this.2.2.2.2⟩
section
variable {E:List (List Rat)} {ER:List (List RQ)} {X:Rat} {XR:RQ}
end
open Go Go.Proofs Tryz Ord
theorem LG {m N D S E T L a b c:Nat} (hq:hU m N D S E≤2^a) (hr:cR m N D S L≤2^b) (hd:D≤2^c) (ht:T≤2^10):tL m N D S E T L≤2^(c+a*N+(10+b*(N+1))):=by
 unfold tL;rw [Nat.pow_add 2 (c+a*N),Nat.pow_add 2 c,Nat.pow_mul 2 a N,Nat.pow_add 2 10,Nat.pow_mul 2 b];exact Nat.mul_le_mul (Nat.mul_le_mul hd (Nat.pow_le_pow_left hq N)) (Nat.mul_le_mul ht (Nat.pow_le_pow_left hr (N+1)))
theorem OQ:dM≤2^6600∧∀ m,m<5→hU m 4096 dM sM (cX 999)≤2^14000∧cR m 4096 dM sM 101≤2^7500:=by decide +kernel
theorem qG {m N M:Nat} (h:N≤M):fM m N≤fM m M:=Nat.pow_le_pow_left (by omega) m
theorem Fs {m N M D F S E:Nat} (hN:N≤M) (h:D≤F):hU m N D S E≤hU m M F S E:=by
 unfold hU;exact Nat.add_le_add (Nat.mul_le_mul_left _ (qG hN)) (Nat.mul_le_mul h (Nat.mul_le_mul (Nat.mul_le_mul_left _ (qG hN)) h))
theorem EX {m N M D F S L:Nat} (hN:N≤M) (h:D≤F):cR m N D S L≤cR m M F S L:=by
 unfold cR;exact Nat.mul_le_mul (Nat.mul_le_mul_left _ (Nat.mul_le_mul_left _ (Nat.mul_le_mul_left _ (qG hN)))) h
theorem RP {X:Rat} (h:pY X) {N:Nat} (hN:N≤4096):dX X≤2^6600∧∀ m,m<5→hU m N (dX X) sM (cX 999)≤2^14000∧cR m N (dX X) sM 101≤2^7500:=by
 obtain ⟨h1,h2⟩:=OQ;exact ⟨Nat.le_trans h.dX h1,fun m hm=>⟨Nat.le_trans (Fs hN h.dX) (h2 m hm).1,Nat.le_trans (EX hN h.dX) (h2 m hm).2⟩⟩
theorem Jj {m N D S E T L a b c B:Nat} (hq:hU m N D S E≤2^a) (hr:cR m N D S L≤2^b) (hd:D≤2^c) (ht:T≤2^10) (hB:c+a*N+(10+b*(N+1))<B):tL m N D S E T L<2^B:=
 Nat.lt_of_le_of_lt (LG hq hr hd ht) (Nat.pow_lt_pow_right (by decide) hB)
def bN (N:Nat):Nat:=21500*N+14200
theorem Re {X:Rat} (h:pY X) {N:Nat} (hN:N≤4096) (m:Nat) (hm:m<5):tL m N (dX X) sM (cX 999) 999 101<2^bN N:=by
 obtain ⟨h0,hh⟩:=RP h hN;obtain ⟨h1,h2⟩:=hh m hm;exact Jj h1 h2 h0 (by decide) (by unfold bN;omega)
structure Ev (r:Rat):Prop where
 d:r.den≤2^200
 s:r.num.natAbs≤2048*r.den
theorem Ev.bd {X:Rat} (h:Ev X):Bd X.den 2048 X:=⟨Nat.dvd_refl _,h.s⟩
theorem Ev.fit {X:Rat} (h:Ev X):Fit 220 X:=
 ⟨Nat.lt_of_le_of_lt (Nat.le_trans h.s (Nat.mul_le_mul_left _ h.d)) (by decide),Nat.lt_of_le_of_lt h.d (by decide)⟩
theorem Ev.abs {X:Rat} (h:Ev X):Ev X.abs:=by
 obtain ⟨h1,h2⟩:=qK X;exact ⟨by rw [h2];exact h.d,by rw [h1,h2,Int.natAbs_natCast];exact h.s⟩
theorem pY.t {X:Rat} (h:pY X):Ev X:=⟨Nat.le_trans h.d (by decide),Nat.le_trans h.s (Nat.mul_le_mul_right _ (by omega))⟩
open Go Go.Proofs Tryz Ord
section
variable {E:List (List Rat)} {ER:List (List RQ)} {X:Rat} {XR:RQ}
theorem gA.at (h:gA E ER X XR) {x:Rat} (hx:pY x):gA E ER x (.of x):=⟨h.e1,h.e2,h.sim,rfl,h.el,h.eb,h.rb,hx⟩
end
open Go Go.Proofs Tryz Ord
def QH:Tr:=.need (.call 68 [(WK (-1))] [(some 3)]) (.call ⟨.value (.func 68),#[(.const (I3 (-1)))],#[2]⟩) 39 false (aU 217 [(W 1 0),(G3 2)] [none] [6,7] [72,39] 72 true (aU 30 [(W 0 0),(W 3 0)] [none] [5,8] [72,72] 72 true (.ret [(W 4 0)])))
theorem ON:aO prog f219 (fun _=>none) [.v none, .v none]=QH:=by kernel_rfl
def Pk:Tr:=aU 111 [(.agg [tN,(tE (.bool false)),tN])] [none] [1] [39] 72 true (.ret [(W 0 0)])
theorem Uv:aO prog f216 (fun _=>none) []=Pk:=by kernel_rfl
def PA:Tr:=aU 200 [(G3 0),(G3 1)] [(some 3),none] [8,9] [39,39] 90 false (.ret [(G3 2)])
theorem Nd:aO prog f221 (fun _=>none) [.v (some 3), .v (some 3)]=PA:=by kernel_rfl
def sR:Tr:=.ret [(W 16 0)]
def sK:Tr:=.need (.call 217 [(W 11 0),(.agg [(U 15 0),(U 15 1),(U 15 2)])] [none]) (.call ⟨.value (.func 217),#[(.tmp 19),(.tmp 24)],#[72,39]⟩) 72 true sR
def sF:Tr:=.need (.call 221 [(.agg [(U 12 0),(U 12 1),(U 12 2)]),(.agg [(U 14 0),(U 14 1),(U 14 2)])] [(some 3)]) (.call ⟨.value (.func 221),#[(.tmp 20),(.tmp 23)],#[39,39]⟩) 39 true sK
def sA:Tr:=.need (.call 68 [(W 13 0)] [(some 3)]) (.call ⟨.value (.func 68),#[(.tmp 22)],#[2]⟩) 39 false sF
def sN:Tr:=.need (.prim [(W 0 0),(WK (1))] none) (.binOp .add 2 (.tmp 21) (.const (I3 (1))) 2) 2 false sA
def uK:Tr:=.need (.call 68 [(WK (1))] [(some 3)]) (.call ⟨.value (.func 68),#[(.const (I3 (1)))],#[2]⟩) 39 false sN
def uM:Tr:=.need (.call 219 [(W 8 0),(W 10 0)] [none]) (.call ⟨.value (.func 219),#[(.tmp 14),(.tmp 18)],#[72,72]⟩) 72 false uK
def uH:Tr:=.need (.call 217 [(W 2 0),(.agg [(U 9 0),(U 9 1),(U 9 2)])] [none]) (.call ⟨.value (.func 217),#[(.tmp 15),(.tmp 17)],#[72,39]⟩) 72 false uM
def uJ:Tr:=.need (.call 68 [(W 0 0)] [(some 3)]) (.call ⟨.value (.func 68),#[(.tmp 16)],#[2]⟩) 39 false uH
def uC:Tr:=.need (.call 32 [(W 7 0),(W 1 0)] [none]) (.call ⟨.value (.func 32),#[(.tmp 12),(.tmp 13)],#[72,72]⟩) 72 false uJ
def uV:Tr:=.need (.call 217 [(W 3 0),(.agg [(U 6 0),(U 6 1),(U 6 2)])] [none]) (.call ⟨.value (.func 217),#[(.tmp 7),(.tmp 11)],#[72,39]⟩) 72 false uC
def uU:Tr:=.need (.call 68 [(W 5 0)] [(some 3)]) (.call ⟨.value (.func 68),#[(.tmp 10)],#[2]⟩) 39 false uV
def uR:Tr:=.need (.prim [(W 4 0),(WK (1))] none) (.binOp .add 2 (.tmp 9) (.const (I3 (1))) 2) 2 false uU
def uT:Tr:=.need (.prim [(WK (2)),(W 0 0)] none) (.binOp .mul 2 (.const (I3 (2))) (.tmp 8) 2) 2 false uR
def uW:Tr:=.need (.call 216 [] [none]) (.call ⟨.value (.func 216),#[],#[]⟩) 72 false uT
theorem zY:aO prog f220 (fun _=>none) [.v none, .v none, .v none]=uW:=by kernel_rfl
def uA:Tr:=.ret [(W 8 0)]
def uP:Tr:=.need (.call 219 [(W 4 0),(W 7 0)] [none]) (.call ⟨.value (.func 219),#[(.tmp 10),(.tmp 15)],#[72,72]⟩) 72 true uA
def uQ:Tr:=.need (.call 217 [(W 2 0),(.agg [(U 6 0),(U 6 1),(U 6 2)])] [none]) (.call ⟨.value (.func 217),#[(.tmp 11),(.tmp 14)],#[72,39]⟩) 72 true uP
def uG:Tr:=.need (.call 68 [(W 5 0)] [(some 3)]) (.call ⟨.value (.func 68),#[(.tmp 13)],#[2]⟩) 39 false uQ
def uN:Tr:=.need (.prim [(WK (2)),(W 0 0)] none) (.binOp .mul 2 (.const (I3 (2))) (.tmp 12) 2) 2 false uG
def uF:Tr:=.need (.call 32 [(W 3 0),(W 1 0)] [none]) (.call ⟨.value (.func 32),#[(.tmp 8),(.tmp 9)],#[72,72]⟩) 72 false uN
theorem Ap:aO prog f223 (fun _=>none) [.v none, .v none, .v none, .ref 1]=uF:=by kernel_rfl
def cI (p:List Rat) (c:Rat):List Rat:=trim ((List.range p.length).map fun i=>p.getD i 0*c)
def HU (p q:List Rat):List Rat:=xK p (cI q (((-1:Int):Int):Rat))
theorem FD (p:List Rat) (c:Rat) (i A B:Nat) (hi:i<p.length) (hl:p.length<1099511627776) (hp:∀ a∈p,Fit A a) (hc:Fit B c) (h:A+B≤34359738368):aJ prog 264 [(.one (.int .i64 i):aH),(.one (.bM ([sQ p])):aH),(.one (.bM (qC c)):aH)] (.ret [qT (p.getD i 0*c)]):=by
 refine aD (args:=[.v none, .ref 1, .ref 3]) (ins:=[.v (.one (.int .i64 i)), .ref ([sQ p]), .ref (qC c)]) (hints:=(fun _=>none)) fo (by kernel_rfl) func264 ⟨rfl,rfl,rfl,trivial⟩ ?_;rw [Fm];dsimp only [List.map,In.env,aA,aB];refine vn (bE eE (by omega) (Int.toNat_natCast i) (bR hi)) rfl ?_;dsimp only [aA,aB];refine vn (dQ nP (by decide) (by simp) (.inl rfl)) rfl ?_;dsimp only [aA,aB];refine aC (eW _ _ A B (hp _ (List.mem_of_getElem? (bR hi))) hc h) rfl ?_;exact aP rfl
theorem mD (p:List Rat) (c:Rat) (A B:Nat) (hl:p.length<1099511627776) (hp:∀ a∈p,Fit A a) (hc:Fit B c) (h:A+B≤34359738368):aJ prog 217 [(.one (sQ p):aH),(qT c:aH)] (.ret [.one (sQ (cI p c))]):=by
 refine aD (args:=[.v none, .v (some 3)]) (ins:=[.v (.one (sQ p)), .v (qT c)]) (hints:=(fun _=>none)) fo (by kernel_rfl) func217 ⟨rfl,rfl,trivial⟩ ?_;rw [II];dsimp only [List.map,In.env,aA,aB];refine vn (aQ eE (List.length_map _)) rfl ?_;dsimp only [aA,aB];refine aC (Ha p.length 264 [.bM [sQ p], .bM (qC c)] (fun i=>p.getD i 0*c) (fun i hi=>FD p c i A B hi hl hp hc h) (by omega)) rfl ?_;exact aP rfl
theorem gK (p:List Rat) (c:Rat):(cI p c).length≤p.length:=by
 have:=gV ((List.range p.length).map fun i=>p.getD i 0*c)
 rwa [List.length_map,List.length_range] at this
theorem nA {p:List Rat} {c:Rat} {A B:Nat} (hA:1≤A) (hp:∀ a∈p,Fit A a) (hc:Fit B c):∀ a∈cI p c,Fit (A+B) a:=fun a ha=>by
 obtain ⟨i,_,rfl⟩:=List.mem_map.1 (List.mem_of_mem_take ha);exact (dP hA hp i).mul hc
theorem Ki (p q:List Rat) (A B:Nat) (hA:1≤A) (hB:1≤B) (hp:∀ a∈p,Fit A a) (hq:∀ b∈q,Fit B b) (h:A+B≤4294967296) (hpl:p.length<1099511627776) (hql:q.length<1099511627776):aJ prog 219 [(.one (sQ p):aH),(.one (sQ q):aH)] (.ret [.one (sQ (HU p q))]):=by
 refine aD (args:=[.v none, .v none]) (ins:=[.v (.one (sQ p)), .v (.one (sQ q))]) (hints:=(fun _=>none)) fo (by kernel_rfl) func219 ⟨rfl,rfl,trivial⟩ ?_;rw [ON];dsimp only [List.map,In.env,aA,aB];refine aC (fK (-1) (by omega) (by omega)) rfl ?_;dsimp only [aA,aB];refine aC (mD q (((-1:Int):Int):Rat) B 64 hql hq (Fit.int (by omega) (by omega)) (by omega)) rfl ?_;have hl:=gK q (((-1:Int):Int):Rat);dsimp only [aA,aB];refine aC (Kr p _ A (B+64) hA (by omega) hp (nA hB hq (Fit.int (by omega) (by omega))) (by omega) hpl (by omega)) rfl ?_;exact aP rfl
theorem NF  :aJ prog 216 [] (.ret [.one (sQ [0,1])]):=by
 refine aD (args:=[]) (ins:=[]) (hints:=(fun _=>none)) fo (by kernel_rfl) func216 trivial ?_;rw [Uv];dsimp only [List.map,In.env,aA,aB];refine vM (show aN [.agg [.exact (.slice none 0 0), .bool false, .exact (.slice none 0 0)]] [qT 0] from ⟨gW,trivial⟩) (Hb 0) rfl ?_;exact aP rfl
open Go Go.Proofs Tryz Ord
theorem Bg {D E S T:Nat} {p:List Rat} {c:Rat} (h0:D≠0) (h1:E≠0) (hp:∀ a∈p,Bd D S a) (hc:Bd E T c):∀ a∈cI p c,Bd (D*E) (S*T) a:=fun a ha=>by
 obtain ⟨i,_,rfl⟩:=List.mem_map.1 (List.mem_of_mem_take ha);exact (gO hp i).mul h0 h1 hc
theorem wP {D S:Nat} {x:Rat} (h:Bd D S x) (h0:D≠0) (hD:D<2^64) (hS:S<2^100):Fit 200 x:=
 h.fit h0 (Nat.lt_of_lt_of_le hD (Nat.pow_le_pow_right (by omega) (by omega))) (by
  have:=Nat.mul_lt_mul'' hS hD;rw [←Nat.pow_add] at this;exact Nat.lt_of_lt_of_le this (Nat.pow_le_pow_right (by omega) (by omega)))
theorem NQ {D S T:Nat} (hD:D<2^64) (hS:S≤1023) (hT:T<2^64):1*D*((2+1)*((S+1)*(T+1)))<2^200:=by
 have h1:(S+1)*(T+1)≤2^10*2^64:=Nat.mul_le_mul (by omega) (by omega);have h2:(2+1)*((S+1)*(T+1))≤2^2*(2^10*2^64):=Nat.mul_le_mul (by omega) h1;have h3:1*D*((2+1)*((S+1)*(T+1)))≤2^64*(2^2*(2^10*2^64)):=Nat.mul_le_mul (by omega) h2;exact Nat.lt_of_le_of_lt h3 (by decide)
theorem uZ:∀ a∈([0,1]:List Rat),Bd 1 1 a:=fun a ha=>by
 simp only [List.mem_cons,List.not_mem_nil,or_false] at ha;rcases ha with rfl | rfl
 ·exact Bd.zero
 ·exact Bd.one (by omega)
theorem IL {p q:List Rat} {A B:Nat} (hA:1≤A) (hB:1≤B) (hp:∀ a∈p,Fit A a) (hq:∀ a∈q,Fit B a):∀ a∈xK p q,Fit (A+B+1) a:=fun a ha=>by
 obtain ⟨i,_,rfl⟩:=List.mem_map.1 (List.mem_of_mem_take ha);exact (dP hA hp i).add (dP hB hq i)
theorem Lw {p q:List Rat} {A B:Nat} (hA:1≤A) (hB:1≤B) (hp:∀ a∈p,Fit A a) (hq:∀ a∈q,Fit B a):∀ a∈HU p q,Fit (A+(B+64)+1) a:=
 IL hA (by omega) hp (nA hB hq (Fit.int (by omega) (by omega)))
theorem Jt (p q:List Rat):(HU p q).length≤max p.length q.length:=by
 have h1:=tO p (cI q (((-1:Int):Int):Rat));have h2:=gK q (((-1:Int):Int):Rat);unfold HU;omega
def yC (n:Nat) (p last:List Rat):List Rat:=
 cI (HU (lW (cI [0,1] (((2*n+1:Nat):Int):Rat)) p) (cI last ((n:Int):Rat))) (((1:Int):Rat)/(((n+1:Nat):Int):Rat))
def pZ (n:Nat) (p last:List Rat):List Rat:=HU (lW (cI [0,1] ((2:Int):Rat)) p) (cI last (((2*n:Nat):Int):Rat))
theorem Mm (n:Nat):(((n+1:Nat):Int):Rat)≠0:=JP (by omega)
theorem LW (a b:Rat) (A B:Nat) (hb0:b≠0) (ha:Fit A a) (hb:Fit B b) (h:A+B≤34359738368):aJ prog 221 [(qT a:aH),(qT b:aH)] (.ret [qT (a/b)]):=by
 refine aD (args:=[.v (some 3), .v (some 3)]) (ins:=[.v (qT a), .v (qT b)]) (hints:=(fun _=>none)) fo (by kernel_rfl) func221 ⟨rfl,rfl,trivial⟩ ?_;rw [Nd];dsimp only [List.map,In.env,aA,aB];refine aC (Li a b A B ha hb h) rfl ?_;rw [if_neg hb0];exact aP rfl
set_option maxHeartbeats 1000000 in
theorem AL (n:Nat) (p last:List Rat) (D S:Nat) (h0:D≠0) (hn:n≤100) (hD:D<2^64) (hS:S<2^64) (hp:∀ a∈p,Bd D S a) (hq:∀ a∈last,Bd D S a) (hpl:p.length≤32) (hql:last.length≤32):aJ prog 220 [(.one (.int .i64 n):aH),(.one (sQ p):aH),(.one (sQ last):aH)] (.ret [.one (sQ (yC n p last))]):=by
 refine aD (args:=[.v none, .v none, .v none]) (ins:=[.v (.one (.int .i64 n)), .v (.one (sQ p)), .v (.one (sQ last))]) (hints:=(fun _=>none)) fo (by kernel_rfl) func220 ⟨rfl,rfl,rfl,trivial⟩ ?_;rw [zY];dsimp only [List.map,In.env,aA,aB];have hq200:∀ a∈last,Fit 200 a:=fun a ha=>wP (hq a ha) h0 hD (Nat.lt_of_lt_of_le hS (Nat.pow_le_pow_right (by omega) (by omega)));have hx:∀ a∈cI [0,1] (((2*n+1:Nat):Int):Rat),Bd 1 201 a:=fun a ha=>(Bg (D:=1) (E:=1) (by omega) (by omega) uZ (Bd.int (n:=((2*n+1:Nat):Int)) (S:=201) (by omega)) a ha).mono (Nat.dvd_refl _) (by omega);have hxl:=gK [0,1] (((2*n+1:Nat):Int):Rat);have hxl2:(cI [0,1] (((2*n+1:Nat):Int):Rat)).length≤2:=hxl
 have hm:∀ a∈lW (cI [0,1] (((2*n+1:Nat):Int):Rat)) p,Fit 200 a:=fun a ha=>by
  have hb:=(vA (by omega) h0 hx hp a ha).mono (E:=D) (T:=2*(201*S)) (by rw [Nat.one_mul];exact Nat.dvd_refl _) (Nat.mul_le_mul_right _ hxl2);exact wP hb h0 hD (by omega)
 have hml:=kV (cI [0,1] (((2*n+1:Nat):Int):Rat)) p;have hfn:Fit 64 ((n:Int):Rat):=Fit.int (by omega) (by omega);have hsl:=nA (A:=200) (by omega) hq200 hfn;have hsll:=gK last ((n:Int):Rat);have hroom:=NQ (S:=201) hD (by omega) hS;refine aC (NF) rfl ?_;dsimp only [aA,aB];clear hD hS;refine vn (mN (by omega) (by omega)) rfl ?_;dsimp only [aA,aB];refine vn (aG (by omega) (by omega)) rfl ?_;dsimp only [aA,aB];rw [show 2*(n:Int)+1=((2*n+1:Nat):Int) by omega];refine aC (fK ((2*n+1:Nat):Int) (by omega) (by omega)) rfl ?_;dsimp only [aA,aB];refine aC (mD [0,1] (((2*n+1:Nat):Int):Rat) 64 64 (by simp) (fun a ha=>(uZ a ha).fit (by omega) (by omega) (by omega)) (Fit.int (by omega) (by omega)) (by omega)) rfl ?_;dsimp only [aA,aB];refine aC (FE (cI [0,1] (((2*n+1:Nat):Int):Rat)) p 1 D 201 S 200 (by omega) h0 hx hp (by omega) (Nat.lt_of_le_of_lt (Nat.mul_le_mul_left _ (Nat.mul_le_mul_right _ (by omega))) hroom) (by omega) (by omega)) rfl ?_;dsimp only [aA,aB];refine aC (fK (n:Int) (by omega) (by omega)) rfl ?_;dsimp only [aA,aB];refine aC (mD last ((n:Int):Rat) 200 64 (by omega) hq200 hfn (by omega)) rfl ?_;dsimp only [aA,aB];refine aC (Ki _ _ 200 264 (by omega) (by omega) hm hsl (by omega) (by split at hml<;>omega) (by omega)) rfl ?_;dsimp only [aA,aB];refine aC (fK 1 (by omega) (by omega)) rfl ?_;dsimp only [aA,aB];refine vn (aG (by omega) (by omega)) rfl ?_;dsimp only [aA,aB];rw [show (n:Int)+1=((n+1:Nat):Int) by omega];refine aC (fK ((n+1:Nat):Int) (by omega) (by omega)) rfl ?_;dsimp only [aA,aB];refine aC (LW ((1:Int):Rat) (((n+1:Nat):Int):Rat) 64 64 (Mm n) (Fit.int (by omega) (by omega)) (Fit.int (by omega) (by omega)) (by omega)) rfl ?_;dsimp only [aA,aB];have hdl:=Jt (lW (cI [0,1] (((2*n+1:Nat):Int):Rat)) p) (cI last ((n:Int):Rat));refine aC (mD _ (((1:Int):Rat)/(((n+1:Nat):Int):Rat)) (200+(264+64)+1) (64+64) (by split at hml<;>omega) (Lw (by omega) (by omega) hm hsl) ((Fit.int (by omega) (by omega)).div (Fit.int (by omega) (by omega))) (by omega)) rfl ?_;exact aP rfl
set_option maxHeartbeats 1000000 in
theorem AE (n:Nat) (p last:List Rat) (D S:Nat) (h0:D≠0) (hn:n≤100) (hD:D<2^64) (hS:S<2^64) (hp:∀ a∈p,Bd D S a) (hq:∀ a∈last,Bd D S a) (hpl:p.length≤32) (hql:last.length≤32):aJ prog 223 [(.one (.int .i64 n):aH),(.one (sQ p):aH),(.one (sQ last):aH),(.one (.bM ([sQ (cI [0,1] ((2:Int):Rat))])):aH)] (.ret [.one (sQ (pZ n p last))]):=by
 refine aD (args:=[.v none, .v none, .v none, .ref 1]) (ins:=[.v (.one (.int .i64 n)), .v (.one (sQ p)), .v (.one (sQ last)), .ref ([sQ (cI [0,1] ((2:Int):Rat))])]) (hints:=(fun _=>none)) fo (by kernel_rfl) func223 ⟨rfl,rfl,rfl,rfl,trivial⟩ ?_;rw [Ap];dsimp only [List.map,In.env,aA,aB];have hq200:∀ a∈last,Fit 200 a:=fun a ha=>wP (hq a ha) h0 hD (Nat.lt_of_lt_of_le hS (Nat.pow_le_pow_right (by omega) (by omega)));have hx:∀ a∈cI [0,1] ((2:Int):Rat),Bd 1 2 a:=fun a ha=>(Bg (D:=1) (E:=1) (by omega) (by omega) uZ (Bd.int (n:=2) (S:=2) (by omega)) a ha).mono (Nat.dvd_refl _) (by omega);have hxl:=gK [0,1] ((2:Int):Rat);have hxl2:(cI [0,1] ((2:Int):Rat)).length≤2:=hxl
 have hm:∀ a∈lW (cI [0,1] ((2:Int):Rat)) p,Fit 200 a:=fun a ha=>by
  have hb:=(vA (by omega) h0 hx hp a ha).mono (E:=D) (T:=2*(2*S)) (by rw [Nat.one_mul];exact Nat.dvd_refl _) (Nat.mul_le_mul_right _ hxl2);exact wP hb h0 hD (by omega)
 have hml:=kV (cI [0,1] ((2:Int):Rat)) p;have hfn:Fit 64 (((2*n:Nat):Int):Rat):=Fit.int (by omega) (by omega);have hsl:=nA (A:=200) (by omega) hq200 hfn;have hsll:=gK last (((2*n:Nat):Int):Rat);have hroom:=NQ (S:=2) hD (by omega) hS;clear hD hS;refine aC (FE (cI [0,1] ((2:Int):Rat)) p 1 D 2 S 200 (by omega) h0 hx hp (by omega) (Nat.lt_of_le_of_lt (Nat.mul_le_mul_left _ (Nat.mul_le_mul_right _ (by omega))) hroom) (by omega) (by omega)) rfl ?_;dsimp only [aA,aB];refine vn (mN (by omega) (by omega)) rfl ?_;dsimp only [aA,aB];rw [show 2*(n:Int)=((2*n:Nat):Int) by omega];refine aC (fK ((2*n:Nat):Int) (by omega) (by omega)) rfl ?_;dsimp only [aA,aB];refine aC (mD last (((2*n:Nat):Int):Rat) 200 64 (by omega) hq200 hfn (by omega)) rfl ?_;dsimp only [aA,aB];refine aC (Ki _ _ 200 264 (by omega) (by omega) hm hsl (by omega) (by split at hml<;>omega) (by omega)) rfl ?_;exact aP rfl
open Go Go.Proofs Tryz Ord
def dD (one:List Rat) (next:Nat→List Rat→List Rat→List Rat):Nat→List Rat×List Rat
 | 0=>(trim [((1:Int):Rat)],one)
 | n+1=>((dD one next n).2,next (n+1) (dD one next n).2 (dD one next n).1)
def fU:List Rat:=cI [0,1] ((2:Int):Rat)
def Gz (kk k:Nat) (p:List Rat):Bool:=
 let a:=kQ (kE kk k) 0 (kY kk) ((k:Int)+4)
 decide (a.2=0)&&decide (a.1.length=k+4)&&decide (p.length=k+1)&&(List.range (k+4)).all fun i=>decide (a.1.getD i 0*p.getD 0 0=p.getD i 0)
def pU (p:List Rat):Bool:=decide (p.length≤32)&&p.all fun a=>decide (a.den∣4096)&&decide (a.num.natAbs<2^64)
theorem Ni:∀ j,j<5→Gz 7 (2*j) (dD [0,1] yC (2*j)).1=true:=by decide +kernel
theorem LS:∀ j,j<5→Gz 8 (2*j) (dD fU pZ (2*j)).1=true:=by decide +kernel
theorem GV:∀ j,j<10→pU (dD [0,1] yC j).1=true∧pU (dD [0,1] yC j).2=true:=by decide +kernel
theorem GZ:∀ j,j<10→pU (dD fU pZ j).1=true∧pU (dD fU pZ j).2=true:=by decide +kernel
end Go.Sy
